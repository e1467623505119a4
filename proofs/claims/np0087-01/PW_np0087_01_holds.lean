import PyProof.Rows.All
import Wide.All
import OpenK.AllK
import Wide.FinOn
import Lean
import PySem.Challenge.RW_np0087_01
open PySem PySem.W PyProof.Rows PySem.Calls PySem.Spec
set_option Elab.async false
set_option maxRecDepth 100000
set_option maxHeartbeats 8000000
namespace Mine
noncomputable def main.tw10140136200207757160 : Nat := 0
noncomputable def main.tw10159738436595150677 : Nat := 0
noncomputable def main.tw10177057350305019805 : Nat := 0
noncomputable def main.tw10199874654664476236 : Nat := 0
noncomputable def main.tw10204856939554784155 : Nat := 0
noncomputable def main.tw10234815189450012239 : Nat := 0
noncomputable def main.tw10270246312553454781 : Nat := 0
noncomputable def main.tw10298723112805639129 : Nat := 0
noncomputable def main.tw10363585996791799541 : Nat := 0
noncomputable def main.tw10391951854915411234 : Nat := 0
noncomputable def main.tw104360540948158410 : Nat := 0
noncomputable def main.tw10450603732522932521 : Nat := 0
noncomputable def main.tw10455743928339290457 : Nat := 0
noncomputable def main.tw10463206416058312583 : Nat := 0
noncomputable def main.tw10609540516017602915 : Nat := 0
noncomputable def main.tw10625486282989778954 : Nat := 0
noncomputable def main.tw10642606787283503386 : Nat := 0
noncomputable def main.tw10663580350406149668 : Nat := 0
noncomputable def main.tw10665469846841522134 : Nat := 0
noncomputable def main.tw10669944970481658594 : Nat := 0
noncomputable def main.tw10707853282979444102 : Nat := 0
noncomputable def main.tw10717781254789130011 : Nat := 0
noncomputable def main.tw10750994468655217958 : Nat := 0
noncomputable def main.tw10821422270917381399 : Nat := 0
noncomputable def main.tw10825838108423173272 : Nat := 0
noncomputable def main.tw10864377008497418100 : Nat := 0
noncomputable def main.tw10877679251791092727 : Nat := 0
noncomputable def main.tw10896356407431480244 : Nat := 0
noncomputable def main.tw10924716458440934090 : Nat := 0
noncomputable def main.tw11001617756164336837 : Nat := 0
noncomputable def main.tw11003572833241299968 : Nat := 0
noncomputable def main.tw11086099901593105684 : Nat := 0
noncomputable def main.tw11092141859048813250 : Nat := 0
noncomputable def main.tw11101190512080308003 : Nat := 0
noncomputable def main.tw11120327062377616369 : Nat := 0
noncomputable def main.tw11135027115929721415 : Nat := 0
noncomputable def main.tw11156056980113079860 : Nat := 0
noncomputable def main.tw11181722664286889309 : Nat := 0
noncomputable def main.tw11221353774195762014 : Nat := 0
noncomputable def main.tw11251407683458634364 : Nat := 0
noncomputable def main.tw1130211791997205004 : Nat := 0
noncomputable def main.tw11374851513655246148 : Nat := 0
noncomputable def main.tw11403851563620829512 : Nat := 0
noncomputable def main.tw11476092923266045095 : Nat := 0
noncomputable def main.tw11501822485730972192 : Nat := 0
noncomputable def main.tw11536415461529073906 : Nat := 0
noncomputable def main.tw11544348965984651327 : Nat := 0
noncomputable def main.tw11554813239044494598 : Nat := 0
noncomputable def main.tw1156462466702112376 : Nat := 0
noncomputable def main.tw1157997071576566072 : Nat := 0
noncomputable def main.tw11595355409239048105 : Nat := 0
noncomputable def main.tw11646826074482590764 : Nat := 0
noncomputable def main.tw11692516046256081784 : Nat := 0
noncomputable def main.tw11710404883906591787 : Nat := 0
noncomputable def main.tw11752208632293872130 : Nat := 0
noncomputable def main.tw11785714552879321826 : Nat := 0
noncomputable def main.tw11815829001073249272 : Nat := 0
noncomputable def main.tw11962923498438245051 : Nat := 0
noncomputable def main.tw11982392923317675503 : Nat := 0
noncomputable def main.tw11987853993630220354 : Nat := 0
noncomputable def main.tw12027323910402764344 : Nat := 0
noncomputable def main.tw12057704586751987240 : Nat := 0
noncomputable def main.tw12093647306153771053 : Nat := 0
noncomputable def main.tw12205347405646519318 : Nat := 0
noncomputable def main.tw12252054271945606052 : Nat := 0
noncomputable def main.tw12273490649430754879 : Nat := 0
noncomputable def main.tw12298629886278197574 : Nat := 0
noncomputable def main.tw12343854547171428336 : Nat := 0
noncomputable def main.tw12361340156312767134 : Nat := 0
noncomputable def main.tw1236483940969888574 : Nat := 0
noncomputable def main.tw12431561837914552411 : Nat := 0
noncomputable def main.tw12431731261707249289 : Nat := 0
noncomputable def main.tw12455012482086183272 : Nat := 0
noncomputable def main.tw12518504611687188807 : Nat := 0
noncomputable def main.tw12563044803099847913 : Nat := 0
noncomputable def main.tw12564604832814323664 : Nat := 0
noncomputable def main.tw12590340796369385619 : Nat := 0
noncomputable def main.tw12608185968620612914 : Nat := 0
noncomputable def main.tw12623159325031504133 : Nat := 0
noncomputable def main.tw12646911602827044314 : Nat := 0
noncomputable def main.tw12670839924663504800 : Nat := 0
noncomputable def main.tw1270039299266317192 : Nat := 0
noncomputable def main.tw12702744160499308131 : Nat := 0
noncomputable def main.tw1277820614484962519 : Nat := 0
noncomputable def main.tw12839114828313443825 : Nat := 0
noncomputable def main.tw12885385263037960081 : Nat := 0
noncomputable def main.tw12900284412222446716 : Nat := 0
noncomputable def main.tw12915833801598196605 : Nat := 0
noncomputable def main.tw12922898485456448571 : Nat := 0
noncomputable def main.tw12927740378394474205 : Nat := 0
noncomputable def main.tw12941917028564957548 : Nat := 0
noncomputable def main.tw1306636233014830658 : Nat := 0
noncomputable def main.tw13110577991587790113 : Nat := 0
noncomputable def main.tw13113777628852026922 : Nat := 0
noncomputable def main.tw13132915859168520264 : Nat := 0
noncomputable def main.tw13157206579259725088 : Nat := 0
noncomputable def main.tw13180746182150919023 : Nat := 0
noncomputable def main.tw1319676515408343850 : Nat := 0
noncomputable def main.tw13219505800766818778 : Nat := 0
noncomputable def main.tw13224007501803129859 : Nat := 0
noncomputable def main.tw13270728482189477470 : Nat := 0
noncomputable def main.tw13293747886898857621 : Nat := 0
noncomputable def main.tw13348322127785295214 : Nat := 0
noncomputable def main.tw13350764725976880583 : Nat := 0
noncomputable def main.tw13355152605343272895 : Nat := 0
noncomputable def main.tw13402765919934010277 : Nat := 0
noncomputable def main.tw13406003279186336099 : Nat := 0
noncomputable def main.tw13503263706703578961 : Nat := 0
noncomputable def main.tw13590572293223372214 : Nat := 0
noncomputable def main.tw13591255225166038476 : Nat := 0
noncomputable def main.tw13626721169425172152 : Nat := 0
noncomputable def main.tw13642826006792871662 : Nat := 0
noncomputable def main.tw13667920496262714385 : Nat := 0
noncomputable def main.tw13693970394777133609 : Nat := 0
noncomputable def main.tw13724616953566380437 : Nat := 0
noncomputable def main.tw13777938177461255882 : Nat := 0
noncomputable def main.tw13876859957761632879 : Nat := 0
noncomputable def main.tw1390771862084280389 : Nat := 0
noncomputable def main.tw13962693860625380366 : Nat := 0
noncomputable def main.tw14009396871252706886 : Nat := 0
noncomputable def main.tw14060465935940456498 : Nat := 0
noncomputable def main.tw14061640607465278742 : Nat := 0
noncomputable def main.tw14064073609400967072 : Nat := 0
noncomputable def main.tw14080665800827857628 : Nat := 0
noncomputable def main.tw14097447854668400296 : Nat := 0
noncomputable def main.tw1409966394225722968 : Nat := 0
noncomputable def main.tw14106445559736802775 : Nat := 0
noncomputable def main.tw14161005256144132680 : Nat := 0
noncomputable def main.tw14274741233649588404 : Nat := 0
noncomputable def main.tw1429040668314091153 : Nat := 0
noncomputable def main.tw14313897822631088780 : Nat := 0
noncomputable def main.tw1439166485080882 : Nat := 0
noncomputable def main.tw14457758005677747962 : Nat := 0
noncomputable def main.tw14492832472218066102 : Nat := 0
noncomputable def main.tw1453356044741674121 : Nat := 0
noncomputable def main.tw14562738103837258888 : Nat := 0
noncomputable def main.tw14616313730359623137 : Nat := 0
noncomputable def main.tw14635473669698735251 : Nat := 0
noncomputable def main.tw14639212616227390028 : Nat := 0
noncomputable def main.tw14672674291997333471 : Nat := 0
noncomputable def main.tw14708136634888185200 : Nat := 0
noncomputable def main.tw14722489848711283861 : Nat := 0
noncomputable def main.tw14759895335926876869 : Nat := 0
noncomputable def main.tw14761154950323015090 : Nat := 0
noncomputable def main.tw14771111431291430275 : Nat := 0
noncomputable def main.tw14788915703135433725 : Nat := 0
noncomputable def main.tw14793117695081215449 : Nat := 0
noncomputable def main.tw14907226015203709474 : Nat := 0
noncomputable def main.tw14909365282108701170 : Nat := 0
noncomputable def main.tw15015763463395708765 : Nat := 0
noncomputable def main.tw15017983477296125989 : Nat := 0
noncomputable def main.tw1504049600530537962 : Nat := 0
noncomputable def main.tw15060185592220127646 : Nat := 0
noncomputable def main.tw15079240505294077160 : Nat := 0
noncomputable def main.tw15109750227778091905 : Nat := 0
noncomputable def main.tw15131278010643852716 : Nat := 0
noncomputable def main.tw15136431859952498927 : Nat := 0
noncomputable def main.tw1524199478861865191 : Nat := 0
noncomputable def main.tw15270170921892066516 : Nat := 0
noncomputable def main.tw15303317825217679618 : Nat := 0
noncomputable def main.tw15356762974548107741 : Nat := 0
noncomputable def main.tw15365013842991253249 : Nat := 0
noncomputable def main.tw15410482203810522393 : Nat := 0
noncomputable def main.tw1545906260438175962 : Nat := 0
noncomputable def main.tw15465920861327815835 : Nat := 0
noncomputable def main.tw15467891735981029475 : Nat := 0
noncomputable def main.tw15491723280356408159 : Nat := 0
noncomputable def main.tw15514936471743626214 : Nat := 0
noncomputable def main.tw15554039934745177238 : Nat := 0
noncomputable def main.tw15595112118272840620 : Nat := 0
noncomputable def main.tw15616401959046598769 : Nat := 0
noncomputable def main.tw15624239662980076321 : Nat := 0
noncomputable def main.tw15643365686152983790 : Nat := 0
noncomputable def main.tw15734200111481486640 : Nat := 0
noncomputable def main.tw15734660467963936456 : Nat := 0
noncomputable def main.tw15737690656516749961 : Nat := 0
noncomputable def main.tw15803610866087392283 : Nat := 0
noncomputable def main.tw15806524323241146399 : Nat := 0
noncomputable def main.tw1587290215689348708 : Nat := 0
noncomputable def main.tw15928290008803537013 : Nat := 0
noncomputable def main.tw15955573374722617477 : Nat := 0
noncomputable def main.tw15984706205718930553 : Nat := 0
noncomputable def main.tw16008252555379753968 : Nat := 0
noncomputable def main.tw16008457594558532635 : Nat := 0
noncomputable def main.tw16035907590883218939 : Nat := 0
noncomputable def main.tw16046730324260685337 : Nat := 0
noncomputable def main.tw16049902774474827687 : Nat := 0
noncomputable def main.tw16102231251864390963 : Nat := 0
noncomputable def main.tw16135426469972691074 : Nat := 0
noncomputable def main.tw1615045767204293396 : Nat := 0
noncomputable def main.tw16153842264607907944 : Nat := 0
noncomputable def main.tw1615956725737779560 : Nat := 0
noncomputable def main.tw16187894506366716058 : Nat := 0
noncomputable def main.tw16193401482309157537 : Nat := 0
noncomputable def main.tw1628013610222277130 : Nat := 0
noncomputable def main.tw1632041292262086317 : Nat := 0
noncomputable def main.tw16320729459185622934 : Nat := 0
noncomputable def main.tw16356685582667847594 : Nat := 0
noncomputable def main.tw16451033083921036709 : Nat := 0
noncomputable def main.tw16452447596832230105 : Nat := 0
noncomputable def main.tw16480584520131690045 : Nat := 0
noncomputable def main.tw16572128252103988241 : Nat := 0
noncomputable def main.tw16629339528299215175 : Nat := 0
noncomputable def main.tw16641786646906312760 : Nat := 0
noncomputable def main.tw16656740534632174751 : Nat := 0
noncomputable def main.tw16721930046160240684 : Nat := 0
noncomputable def main.tw1677766988990989824 : Nat := 0
noncomputable def main.tw16778611742570070204 : Nat := 0
noncomputable def main.tw1678875084529416142 : Nat := 0
noncomputable def main.tw16798622893749714585 : Nat := 0
noncomputable def main.tw16826212616301561204 : Nat := 0
noncomputable def main.tw16832360635688203351 : Nat := 0
noncomputable def main.tw16922381011570985944 : Nat := 0
noncomputable def main.tw16950194794029067938 : Nat := 0
noncomputable def main.tw16965079339398995527 : Nat := 0
noncomputable def main.tw17052023290607921161 : Nat := 0
noncomputable def main.tw17057053908230417247 : Nat := 0
noncomputable def main.tw17091655785135471103 : Nat := 0
noncomputable def main.tw17118054049896295152 : Nat := 0
noncomputable def main.tw17173306634515819385 : Nat := 0
noncomputable def main.tw17223442867436993403 : Nat := 0
noncomputable def main.tw17236958762192778904 : Nat := 0
noncomputable def main.tw17272174723667511238 : Nat := 0
noncomputable def main.tw17292155258170135553 : Nat := 0
noncomputable def main.tw17297283025540448806 : Nat := 0
noncomputable def main.tw17336282652733537790 : Nat := 0
noncomputable def main.tw17353955331779342651 : Nat := 0
noncomputable def main.tw17402982504261768225 : Nat := 0
noncomputable def main.tw17403364634526059139 : Nat := 0
noncomputable def main.tw17450470499104002142 : Nat := 0
noncomputable def main.tw17477492558424962760 : Nat := 0
noncomputable def main.tw17510229520200029679 : Nat := 0
noncomputable def main.tw17561526911342447988 : Nat := 0
noncomputable def main.tw17644181745481072423 : Nat := 0
noncomputable def main.tw17679725944135375923 : Nat := 0
noncomputable def main.tw17695171507069755227 : Nat := 0
noncomputable def main.tw17699438841360665129 : Nat := 0
noncomputable def main.tw17708487481403421675 : Nat := 0
noncomputable def main.tw17715262827843222689 : Nat := 0
noncomputable def main.tw17725498274588495791 : Nat := 0
noncomputable def main.tw17737603089517620647 : Nat := 0
noncomputable def main.tw17767330081159143506 : Nat := 0
noncomputable def main.tw1777545030009416734 : Nat := 0
noncomputable def main.tw17871620999419790863 : Nat := 0
noncomputable def main.tw17877347583442615404 : Nat := 0
noncomputable def main.tw17958375852430007124 : Nat := 0
noncomputable def main.tw17974016328880235120 : Nat := 0
noncomputable def main.tw18031918436515192882 : Nat := 0
noncomputable def main.tw18063282731904131703 : Nat := 0
noncomputable def main.tw18072910330486901160 : Nat := 0
noncomputable def main.tw18120430973489738927 : Nat := 0
noncomputable def main.tw18134284020713443437 : Nat := 0
noncomputable def main.tw18190005008629794160 : Nat := 0
noncomputable def main.tw18195925520682101353 : Nat := 0
noncomputable def main.tw18218335207050127959 : Nat := 0
noncomputable def main.tw1826329307503635854 : Nat := 0
noncomputable def main.tw18284262389922463811 : Nat := 0
noncomputable def main.tw18302796317244248524 : Nat := 0
noncomputable def main.tw18315214858253571532 : Nat := 0
noncomputable def main.tw18325589031809861271 : Nat := 0
noncomputable def main.tw18332899500509843999 : Nat := 0
noncomputable def main.tw18403998269306519403 : Nat := 0
noncomputable def main.tw18431692314602308842 : Nat := 0
noncomputable def main.tw18442785490491869365 : Nat := 0
noncomputable def main.tw1850612553970854742 : Nat := 0
noncomputable def main.tw1886080085820668685 : Nat := 0
noncomputable def main.tw2007339730380871907 : Nat := 0
noncomputable def main.tw2019394398466159022 : Nat := 0
noncomputable def main.tw2190695567426971638 : Nat := 0
noncomputable def main.tw2195194259037543316 : Nat := 0
noncomputable def main.tw221909299271738847 : Nat := 0
noncomputable def main.tw2225956059507018244 : Nat := 0
noncomputable def main.tw223528310411579522 : Nat := 0
noncomputable def main.tw2279707942289718827 : Nat := 0
noncomputable def main.tw2287757881348798766 : Nat := 0
noncomputable def main.tw2406621943657119228 : Nat := 0
noncomputable def main.tw2433702464844828792 : Nat := 0
noncomputable def main.tw2496676261509829067 : Nat := 0
noncomputable def main.tw2524017781993486291 : Nat := 0
noncomputable def main.tw2538046985915079169 : Nat := 0
noncomputable def main.tw2583023086579268501 : Nat := 0
noncomputable def main.tw2629084897520917108 : Nat := 0
noncomputable def main.tw2647654807098235363 : Nat := 0
noncomputable def main.tw2702614204127132176 : Nat := 0
noncomputable def main.tw2724176850512262202 : Nat := 0
noncomputable def main.tw2729793432009153956 : Nat := 0
noncomputable def main.tw2744014450722944760 : Nat := 0
noncomputable def main.tw2759098988195820126 : Nat := 0
noncomputable def main.tw2821470743931037460 : Nat := 0
noncomputable def main.tw2852251193174398662 : Nat := 0
noncomputable def main.tw2895952525429962455 : Nat := 0
noncomputable def main.tw2906824675625879941 : Nat := 0
noncomputable def main.tw2921621734765799159 : Nat := 0
noncomputable def main.tw2921958311620399285 : Nat := 0
noncomputable def main.tw302440914744352476 : Nat := 0
noncomputable def main.tw3045742163950154196 : Nat := 0
noncomputable def main.tw3137596982192898869 : Nat := 0
noncomputable def main.tw31828345220925962 : Nat := 0
noncomputable def main.tw3256006251114227469 : Nat := 0
noncomputable def main.tw3299218664060906527 : Nat := 0
noncomputable def main.tw330327031418712150 : Nat := 0
noncomputable def main.tw3314904115985164895 : Nat := 0
noncomputable def main.tw3343439749351644125 : Nat := 0
noncomputable def main.tw3372685494851243017 : Nat := 0
noncomputable def main.tw3394367416137920725 : Nat := 0
noncomputable def main.tw341453280667917650 : Nat := 0
noncomputable def main.tw3466206800631347469 : Nat := 0
noncomputable def main.tw3549514262204291990 : Nat := 0
noncomputable def main.tw3557749057250611081 : Nat := 0
noncomputable def main.tw3562595001068472590 : Nat := 0
noncomputable def main.tw3583811862363856187 : Nat := 0
noncomputable def main.tw3626430660855392483 : Nat := 0
noncomputable def main.tw3627144658338631552 : Nat := 0
noncomputable def main.tw3706830351922483016 : Nat := 0
noncomputable def main.tw3779293765908593550 : Nat := 0
noncomputable def main.tw3796207824708393856 : Nat := 0
noncomputable def main.tw3829396358689915599 : Nat := 0
noncomputable def main.tw3848698983108048278 : Nat := 0
noncomputable def main.tw387501639795913443 : Nat := 0
noncomputable def main.tw3905226178654972811 : Nat := 0
noncomputable def main.tw3994622017586750766 : Nat := 0
noncomputable def main.tw4026956272090484662 : Nat := 0
noncomputable def main.tw4038153913678941442 : Nat := 0
noncomputable def main.tw4039676971129161736 : Nat := 0
noncomputable def main.tw4126091431370883743 : Nat := 0
noncomputable def main.tw4189750870438640210 : Nat := 0
noncomputable def main.tw4261964983698606537 : Nat := 0
noncomputable def main.tw4297412468100583042 : Nat := 0
noncomputable def main.tw4324958949535026087 : Nat := 0
noncomputable def main.tw4333880214566435006 : Nat := 0
noncomputable def main.tw4365514962571936147 : Nat := 0
noncomputable def main.tw4458048076830672230 : Nat := 0
noncomputable def main.tw4475767826048309731 : Nat := 0
noncomputable def main.tw4500915450034043215 : Nat := 0
noncomputable def main.tw451873465583785326 : Nat := 0
noncomputable def main.tw452746233719593009 : Nat := 0
noncomputable def main.tw4585930131862741453 : Nat := 0
noncomputable def main.tw4605139254293405059 : Nat := 0
noncomputable def main.tw4637267157515435788 : Nat := 0
noncomputable def main.tw4650958065196391918 : Nat := 0
noncomputable def main.tw4651154628705390771 : Nat := 0
noncomputable def main.tw4681395471914393968 : Nat := 0
noncomputable def main.tw471287901995484742 : Nat := 0
noncomputable def main.tw4749052000479324790 : Nat := 0
noncomputable def main.tw4766233809647381661 : Nat := 0
noncomputable def main.tw4812270449578504274 : Nat := 0
noncomputable def main.tw4839478117068044826 : Nat := 0
noncomputable def main.tw48596604365144762 : Nat := 0
noncomputable def main.tw4900431672193113347 : Nat := 0
noncomputable def main.tw4990475226369331113 : Nat := 0
noncomputable def main.tw5102693214775723256 : Nat := 0
noncomputable def main.tw5127751686995613262 : Nat := 0
noncomputable def main.tw5160751907100791332 : Nat := 0
noncomputable def main.tw5173817698070791615 : Nat := 0
noncomputable def main.tw5203219222101121401 : Nat := 0
noncomputable def main.tw52199770228462824 : Nat := 0
noncomputable def main.tw5240536507193477226 : Nat := 0
noncomputable def main.tw5240779543111244032 : Nat := 0
noncomputable def main.tw5378808338967829844 : Nat := 0
noncomputable def main.tw5392457176865031565 : Nat := 0
noncomputable def main.tw5396188567872606041 : Nat := 0
noncomputable def main.tw5400957986263281647 : Nat := 0
noncomputable def main.tw5401703158475992631 : Nat := 0
noncomputable def main.tw5418533224930618480 : Nat := 0
noncomputable def main.tw5436791530062809996 : Nat := 0
noncomputable def main.tw5450094653865882931 : Nat := 0
noncomputable def main.tw5473700226181020891 : Nat := 0
noncomputable def main.tw5517759331935216279 : Nat := 0
noncomputable def main.tw5518243967957118194 : Nat := 0
noncomputable def main.tw5532463470591059822 : Nat := 0
noncomputable def main.tw5562500717307786561 : Nat := 0
noncomputable def main.tw5571399437266216444 : Nat := 0
noncomputable def main.tw5585478044538960755 : Nat := 0
noncomputable def main.tw5649967823195072380 : Nat := 0
noncomputable def main.tw5665406974723832613 : Nat := 0
noncomputable def main.tw5665735395497279834 : Nat := 0
noncomputable def main.tw5677329702179833609 : Nat := 0
noncomputable def main.tw5797031442667253490 : Nat := 0
noncomputable def main.tw6044114016751833949 : Nat := 0
noncomputable def main.tw6053611964639427726 : Nat := 0
noncomputable def main.tw6161133996638707016 : Nat := 0
noncomputable def main.tw6162249291895867263 : Nat := 0
noncomputable def main.tw6183352029847204284 : Nat := 0
noncomputable def main.tw6222487380544312443 : Nat := 0
noncomputable def main.tw6334894449686545209 : Nat := 0
noncomputable def main.tw6385024630547198690 : Nat := 0
noncomputable def main.tw6389877041954997217 : Nat := 0
noncomputable def main.tw6418098437765475518 : Nat := 0
noncomputable def main.tw6449824600675878752 : Nat := 0
noncomputable def main.tw645136716886899192 : Nat := 0
noncomputable def main.tw6511744376749373798 : Nat := 0
noncomputable def main.tw6519269512792494810 : Nat := 0
noncomputable def main.tw6541472054586571296 : Nat := 0
noncomputable def main.tw6557543464795787104 : Nat := 0
noncomputable def main.tw656089360051881306 : Nat := 0
noncomputable def main.tw65644731488775911 : Nat := 0
noncomputable def main.tw66260789543402106 : Nat := 0
noncomputable def main.tw6655696309031964122 : Nat := 0
noncomputable def main.tw6657087868060814 : Nat := 0
noncomputable def main.tw6660377722381337597 : Nat := 0
noncomputable def main.tw6674386428176565332 : Nat := 0
noncomputable def main.tw6696893160125735727 : Nat := 0
noncomputable def main.tw6697339332421208802 : Nat := 0
noncomputable def main.tw6741292078354696603 : Nat := 0
noncomputable def main.tw6785657489111691699 : Nat := 0
noncomputable def main.tw6801380410627298636 : Nat := 0
noncomputable def main.tw6855474311058116810 : Nat := 0
noncomputable def main.tw6862492499505807319 : Nat := 0
noncomputable def main.tw6877560268529008848 : Nat := 0
noncomputable def main.tw6886502059237256666 : Nat := 0
noncomputable def main.tw6910295442248876197 : Nat := 0
noncomputable def main.tw6912675738884088206 : Nat := 0
noncomputable def main.tw6981815665589151136 : Nat := 0
noncomputable def main.tw7074144079889050967 : Nat := 0
noncomputable def main.tw7113585516715319716 : Nat := 0
noncomputable def main.tw7153082081811710619 : Nat := 0
noncomputable def main.tw716429049611869786 : Nat := 0
noncomputable def main.tw7173623326730630234 : Nat := 0
noncomputable def main.tw7214478077546791972 : Nat := 0
noncomputable def main.tw7235775444256392728 : Nat := 0
noncomputable def main.tw7237411587787531456 : Nat := 0
noncomputable def main.tw7293298908176781663 : Nat := 0
noncomputable def main.tw7298748307773712898 : Nat := 0
noncomputable def main.tw7308723440029596264 : Nat := 0
noncomputable def main.tw7332552209862256014 : Nat := 0
noncomputable def main.tw73751810991705359 : Nat := 0
noncomputable def main.tw7411558596216406370 : Nat := 0
noncomputable def main.tw7514964652732493775 : Nat := 0
noncomputable def main.tw7590696779544312186 : Nat := 0
noncomputable def main.tw7647378279178456250 : Nat := 0
noncomputable def main.tw765107192605250810 : Nat := 0
noncomputable def main.tw7691172733374981047 : Nat := 0
noncomputable def main.tw7699798408344515789 : Nat := 0
noncomputable def main.tw7712634645042067442 : Nat := 0
noncomputable def main.tw7751025194823839400 : Nat := 0
noncomputable def main.tw7761410557224570781 : Nat := 0
noncomputable def main.tw7846812961960373227 : Nat := 0
noncomputable def main.tw7875838824674609581 : Nat := 0
noncomputable def main.tw7904437144335635152 : Nat := 0
noncomputable def main.tw7974275031393228247 : Nat := 0
noncomputable def main.tw8079908401900000222 : Nat := 0
noncomputable def main.tw8118072479153026202 : Nat := 0
noncomputable def main.tw8207831470162742035 : Nat := 0
noncomputable def main.tw8211959896082780389 : Nat := 0
noncomputable def main.tw8228058824784995430 : Nat := 0
noncomputable def main.tw8260724100714396741 : Nat := 0
noncomputable def main.tw832900586485598795 : Nat := 0
noncomputable def main.tw834873547066669988 : Nat := 0
noncomputable def main.tw8440099810896429113 : Nat := 0
noncomputable def main.tw8466321980469482115 : Nat := 0
noncomputable def main.tw8467378866343419333 : Nat := 0
noncomputable def main.tw8475525182357872103 : Nat := 0
noncomputable def main.tw8478376212529829071 : Nat := 0
noncomputable def main.tw8484041278411425421 : Nat := 0
noncomputable def main.tw8557395850702784662 : Nat := 0
noncomputable def main.tw8627561154394265716 : Nat := 0
noncomputable def main.tw8652556701797213591 : Nat := 0
noncomputable def main.tw8663697691656813868 : Nat := 0
noncomputable def main.tw8707812797481193996 : Nat := 0
noncomputable def main.tw8729708805864041840 : Nat := 0
noncomputable def main.tw8748973510418095054 : Nat := 0
noncomputable def main.tw8905464785575363620 : Nat := 0
noncomputable def main.tw8930851030842425676 : Nat := 0
noncomputable def main.tw8947760058931562597 : Nat := 0
noncomputable def main.tw9069182735580402390 : Nat := 0
noncomputable def main.tw9121559901702372667 : Nat := 0
noncomputable def main.tw9155575984036265788 : Nat := 0
noncomputable def main.tw917386388269078853 : Nat := 0
noncomputable def main.tw9190990891756207365 : Nat := 0
noncomputable def main.tw9265829497004654079 : Nat := 0
noncomputable def main.tw9268297945177815525 : Nat := 0
noncomputable def main.tw9272984997812220495 : Nat := 0
noncomputable def main.tw9302470337196694018 : Nat := 0
noncomputable def main.tw9360745474812902239 : Nat := 0
noncomputable def main.tw9361300454564663673 : Nat := 0
noncomputable def main.tw9369988214560726041 : Nat := 0
noncomputable def main.tw9376575566392132001 : Nat := 0
noncomputable def main.tw9406782406253462049 : Nat := 0
noncomputable def main.tw9417822746687237092 : Nat := 0
noncomputable def main.tw9483120023164983764 : Nat := 0
noncomputable def main.tw9498315638749924794 : Nat := 0
noncomputable def main.tw9508770018378322450 : Nat := 0
noncomputable def main.tw9557352009045844224 : Nat := 0
noncomputable def main.tw9561784451562097942 : Nat := 0
noncomputable def main.tw961187720498965250 : Nat := 0
noncomputable def main.tw9670510015898674028 : Nat := 0
noncomputable def main.tw9681375758050803366 : Nat := 0
noncomputable def main.tw979501456738626862 : Nat := 0
noncomputable def main.tw9808303207383738048 : Nat := 0
noncomputable def main.tw9840939614602229412 : Nat := 0
noncomputable def main.tw9848185148710128376 : Nat := 0
noncomputable def main.tw9897820754763898449 : Nat := 0
noncomputable def main.tw9925469786538053656 : Nat := 0
noncomputable def main.tw9957550378297406723 : Nat := 0
noncomputable def main.tw9976160756891316704 : Nat := 0
noncomputable def main.tw9994787619460420439 : Nat := 0
/-- a statement of the program's text, by its place -/
noncomputable def stA (i : Nat) : Stmt := (PySem.Challenge.pw_np0087_01.main.body[i]?).getD (.Pass default)
noncomputable def stB (i j : Nat) : Stmt := match stA i with
  | .ClassDef _ _ _ b _ _ _ _ _ _ _ => (b[j]?).getD (.Pass default)
  | s => s
noncomputable def pA : Stmt → Arguments
  | .FunctionDef _ a _ _ _ _ _ _ _ _ => a
  | _ => default
noncomputable def pB : Stmt → List Stmt
  | .FunctionDef _ _ b _ _ _ _ _ _ _ => b
  | _ => []
noncomputable def pS : Stmt → PySem.Scope
  | .FunctionDef _ _ _ _ _ _ s _ _ _ => s
  | _ => default
noncomputable def K0 : Params → Frag := fun P => 
(nat_lit 2, (Obj.mk Value.none none (Data.dict #[] 0) #[])) ::
(nat_lit 3, (Obj.mk (Value.type "dict") none (Data.dict #[(DictEntry.mk (PyData.keyHash P (Str.ofString "__name__")) (Value.str (Str.ofString "__name__") 165) (Value.str (Str.ofString "law_np0087_01") 876)), (DictEntry.mk (PyData.keyHash P (Str.ofString "__doc__")) (Value.str (Str.ofString "__doc__") 166) Value.none), (DictEntry.mk (PyData.keyHash P (Str.ofString "__package__")) (Value.str (Str.ofString "__package__") 167) Value.none), (DictEntry.mk (PyData.keyHash P (Str.ofString "__loader__")) (Value.str (Str.ofString "__loader__") 168) (Value.builtin "__main__.__loader__#opaque")), (DictEntry.mk (PyData.keyHash P (Str.ofString "__spec__")) (Value.str (Str.ofString "__spec__") 169) Value.none), (DictEntry.mk (PyData.keyHash P (Str.ofString "__annotations__")) (Value.str (Str.ofString "__annotations__") 170) (Value.ref 6)), (DictEntry.mk (PyData.keyHash P (Str.ofString "__builtins__")) (Value.str (Str.ofString "__builtins__") 171) (Value.ref 4)), (DictEntry.mk (PyData.keyHash P (Str.ofString "__file__")) (Value.str (Str.ofString "__file__") 173) (Value.str (Str.ofString "/claim/cut.py") 172)), (DictEntry.mk (PyData.keyHash P (Str.ofString "__cached__")) (Value.str (Str.ofString "__cached__") 174) Value.none), (DictEntry.mk (PyData.keyHash P (Str.ofString "_wall")) (Value.str (Str.ofString "_wall") 193) (Value.ref 21)), (DictEntry.mk (PyData.keyHash P (Str.ofString "Interval")) (Value.str (Str.ofString "Interval") 229) (Value.ref 38)), (DictEntry.mk (PyData.keyHash P (Str.ofString "IntervalTree")) (Value.str (Str.ofString "IntervalTree") 259) (Value.ref 59)), (DictEntry.mk (PyData.keyHash P (Str.ofString "total_of")) (Value.str (Str.ofString "total_of") 266) (Value.ref 70)), (DictEntry.mk (PyData.keyHash P (Str.ofString "own_length")) (Value.str (Str.ofString "own_length") 273) (Value.ref 77)), (DictEntry.mk (PyData.keyHash P (Str.ofString "text_length")) (Value.str (Str.ofString "text_length") 280) (Value.ref 84)), (DictEntry.mk (PyData.keyHash P (Str.ofString "put_in_stead")) (Value.str (Str.ofString "put_in_stead") 290) (Value.ref 91)), (DictEntry.mk (PyData.keyHash P (Str.ofString "set_left")) (Value.str (Str.ofString "set_left") 298) (Value.ref 98)), (DictEntry.mk (PyData.keyHash P (Str.ofString "set_right")) (Value.str (Str.ofString "set_right") 306) (Value.ref 105)), (DictEntry.mk (PyData.keyHash P (Str.ofString "rotate_right")) (Value.str (Str.ofString "rotate_right") 316) (Value.ref 112)), (DictEntry.mk (PyData.keyHash P (Str.ofString "rotate_left")) (Value.str (Str.ofString "rotate_left") 326) (Value.ref 119)), (DictEntry.mk (PyData.keyHash P (Str.ofString "right_turn_helps")) (Value.str (Str.ofString "right_turn_helps") 335) (Value.ref 126)), (DictEntry.mk (PyData.keyHash P (Str.ofString "left_turn_helps")) (Value.str (Str.ofString "left_turn_helps") 344) (Value.ref 133)), (DictEntry.mk (PyData.keyHash P (Str.ofString "settle")) (Value.str (Str.ofString "settle") 356) (Value.ref 140)), (DictEntry.mk (PyData.keyHash P (Str.ofString "settle_up")) (Value.str (Str.ofString "settle_up") 364) (Value.ref 147)), (DictEntry.mk (PyData.keyHash P (Str.ofString "add_above")) (Value.str (Str.ofString "add_above") 372) (Value.ref 154)), (DictEntry.mk (PyData.keyHash P (Str.ofString "find_interval")) (Value.str (Str.ofString "find_interval") 384) (Value.ref 161)), (DictEntry.mk (PyData.keyHash P (Str.ofString "leftmost")) (Value.str (Str.ofString "leftmost") 391) (Value.ref 168)), (DictEntry.mk (PyData.keyHash P (Str.ofString "rightmost")) (Value.str (Str.ofString "rightmost") 398) (Value.ref 175)), (DictEntry.mk (PyData.keyHash P (Str.ofString "following")) (Value.str (Str.ofString "following") 405) (Value.ref 182)), (DictEntry.mk (PyData.keyHash P (Str.ofString "preceding")) (Value.str (Str.ofString "preceding") 412) (Value.ref 189)), (DictEntry.mk (PyData.keyHash P (Str.ofString "put_behind")) (Value.str (Str.ofString "put_behind") 421) (Value.ref 196)), (DictEntry.mk (PyData.keyHash P (Str.ofString "put_ahead")) (Value.str (Str.ofString "put_ahead") 431) (Value.ref 203)), (DictEntry.mk (PyData.keyHash P (Str.ofString "split_at")) (Value.str (Str.ofString "split_at") 442) (Value.ref 210)), (DictEntry.mk (PyData.keyHash P (Str.ofString "drop_interval")) (Value.str (Str.ofString "drop_interval") 454) (Value.ref 217)), (DictEntry.mk (PyData.keyHash P (Str.ofString "insert_interval")) (Value.str (Str.ofString "insert_interval") 465) (Value.ref 224)), (DictEntry.mk (PyData.keyHash P (Str.ofString "eq")) (Value.str (Str.ofString "eq") 475) (Value.ref 231)), (DictEntry.mk (PyData.keyHash P (Str.ofString "plist_find")) (Value.str (Str.ofString "plist_find") 484) (Value.ref 238)), (DictEntry.mk (PyData.keyHash P (Str.ofString "plist_get")) (Value.str (Str.ofString "plist_get") 493) (Value.ref 245)), (DictEntry.mk (PyData.keyHash P (Str.ofString "holds_pair")) (Value.str (Str.ofString "holds_pair") 503) (Value.ref 252)), (DictEntry.mk (PyData.keyHash P (Str.ofString "same_plist")) (Value.str (Str.ofString "same_plist") 513) (Value.ref 259)), (DictEntry.mk (PyData.keyHash P (Str.ofString "PropRules")) (Value.str (Str.ofString "PropRules") 560) (Value.ref 283)), (DictEntry.mk (PyData.keyHash P (Str.ofString "value_in")) (Value.str (Str.ofString "value_in") 571) (Value.ref 294)), (DictEntry.mk (PyData.keyHash P (Str.ofString "TextProps")) (Value.str (Str.ofString "TextProps") 656) (Value.ref 353)), (DictEntry.mk (PyData.keyHash P (Str.ofString "props_of_rows")) (Value.str (Str.ofString "props_of_rows") 667) (Value.ref 364)), (DictEntry.mk (PyData.keyHash P (Str.ofString "join_at")) (Value.str (Str.ofString "join_at") 679) (Value.ref 371)), (DictEntry.mk (PyData.keyHash P (Str.ofString "rows_between")) (Value.str (Str.ofString "rows_between") 692) (Value.ref 378)), (DictEntry.mk (PyData.keyHash P (Str.ofString "next_change")) (Value.str (Str.ofString "next_change") 706) (Value.ref 385)), (DictEntry.mk (PyData.keyHash P (Str.ofString "next_single")) (Value.str (Str.ofString "next_single") 720) (Value.ref 392)), (DictEntry.mk (PyData.keyHash P (Str.ofString "previous_change")) (Value.str (Str.ofString "previous_change") 732) (Value.ref 399)), (DictEntry.mk (PyData.keyHash P (Str.ofString "previous_single")) (Value.str (Str.ofString "previous_single") 746) (Value.ref 406)), (DictEntry.mk (PyData.keyHash P (Str.ofString "first_with")) (Value.str (Str.ofString "first_with") 761) (Value.ref 413)), (DictEntry.mk (PyData.keyHash P (Str.ofString "first_without")) (Value.str (Str.ofString "first_without") 776) (Value.ref 420)), (DictEntry.mk (PyData.keyHash P (Str.ofString "NAMES")) (Value.str (Str.ofString "NAMES") 784) (Value.ref 421)), (DictEntry.mk (PyData.keyHash P (Str.ofString "PlainLisp")) (Value.str (Str.ofString "PlainLisp") 875) (Value.ref 487)), (DictEntry.mk (PyData.keyHash P (Str.ofString "_law_draw")) (Value.str (Str.ofString "_law_draw") 885) (Value.ref 498)), (DictEntry.mk (PyData.keyHash P (Str.ofString "_law_value")) (Value.str (Str.ofString "_law_value") 892) (Value.ref 505)), (DictEntry.mk (PyData.keyHash P (Str.ofString "_law_plist")) (Value.str (Str.ofString "_law_plist") 900) (Value.ref 512)), (DictEntry.mk (PyData.keyHash P (Str.ofString "_law_one")) (Value.str (Str.ofString "_law_one") 911) (Value.ref 519)), (DictEntry.mk (PyData.keyHash P (Str.ofString "_law_all")) (Value.str (Str.ofString "_law_all") 917) (Value.ref 524)), (DictEntry.mk (PyData.keyHash P (Str.ofString "_law_next")) (Value.str (Str.ofString "_law_next") 927) (Value.ref 531)), (DictEntry.mk (PyData.keyHash P (Str.ofString "_law_last")) (Value.str (Str.ofString "_law_last") 937) (Value.ref 538)), (DictEntry.mk (PyData.keyHash P (Str.ofString "law")) (Value.str (Str.ofString "law") 943) (Value.ref 543))] 62) #[])) ::
(nat_lit 15, (Obj.mk (Value.type "tuple") none (Data.seq #[] 0) #[])) ::
(nat_lit 17, (Obj.mk (Value.type "tuple") none (Data.seq #[(Value.str (Str.ofString "k") 190)] 0) #[])) ::
(nat_lit 18, (Obj.mk (Value.type "tuple") none (Data.seq #[] 0) #[])) ::
(nat_lit 20, (Obj.mk (Value.type "code") none (Data.fields #[(Value.str (Str.ofString "_wall") 187), (Value.str (Str.ofString "_wall") 188), (Value.str (Str.ofString "/claim/cut.py") 189), (Value.int 1 0), (Value.int 1 0), (Value.int 0 0), (Value.int 0 0), (Value.int 3 0), (Value.ref 15), (Value.bool Bool.true), (Value.int 181 0), (Value.ref 16), Value.none, (Value.ref 17), (Value.ref 18), (Value.ref 19), (Value.int 191 0), (Value.int 1 0), (Value.str (Str.ofString "/claim/cut.py") 192)]) #[])) ::
(nat_lit 21, (Obj.mk (Value.type "function") none (Data.func (FuncData.mk (Str.ofString "_wall") (Str.ofString "_wall") (pA (stA 0)) (.stmts (pB (stA 0))) (pS (stA 0)) 3 [] Value.none Value.none Value.none (Value.str (Str.ofString "__main__") 164) none (Value.ref 20) Value.none 0)) #[])) ::
(nat_lit 29, (Obj.mk (Value.type "tuple") none (Data.seq #[] 0) #[])) ::
(nat_lit 31, (Obj.mk (Value.type "tuple") none (Data.seq #[(Value.str (Str.ofString "self") 211), (Value.str (Str.ofString "total") 212), (Value.str (Str.ofString "plist") 213)] 0) #[])) ::
(nat_lit 32, (Obj.mk (Value.type "tuple") none (Data.seq #[] 0) #[])) ::
(nat_lit 34, (Obj.mk (Value.type "code") none (Data.fields #[(Value.str (Str.ofString "__init__") 208), (Value.str (Str.ofString "Interval.__init__") 209), (Value.str (Str.ofString "/claim/cut.py") 210), (Value.int 7 0), (Value.int 3 0), (Value.int 0 0), (Value.int 0 0), (Value.int 3 0), (Value.ref 29), (Value.bool Bool.true), (Value.int 181 0), (Value.ref 30), Value.none, (Value.ref 31), (Value.ref 32), (Value.ref 33), (Value.int 214 0), (Value.int 7 0), (Value.str (Str.ofString "/claim/cut.py") 215)]) #[])) ::
(nat_lit 35, (Obj.mk (Value.type "function") none (Data.func (FuncData.mk (Str.ofString "__init__") (Str.ofString "Interval.__init__") (pA (stB 2 0)) (.stmts (pB (stB 2 0))) (pS (stB 2 0)) 3 [] Value.none Value.none Value.none (Value.str (Str.ofString "emacs.intervals") 194) none (Value.ref 34) Value.none 0)) #[])) ::
(nat_lit 36, (Obj.mk (Value.type "tuple") none (Data.seq #[(Value.str (Str.ofString "left") 217), (Value.str (Str.ofString "parent") 218), (Value.str (Str.ofString "plist") 219), (Value.str (Str.ofString "right") 220), (Value.str (Str.ofString "total") 221)] 0) #[])) ::
(nat_lit 37, (Obj.mk (Value.type "dict") none (Data.dict #[(DictEntry.mk (PyData.keyHash P (Str.ofString "__module__")) (Value.str (Str.ofString "__module__") 203) (Value.str (Str.ofString "emacs.intervals") 194)), (DictEntry.mk (PyData.keyHash P (Str.ofString "__firstlineno__")) (Value.str (Str.ofString "__firstlineno__") 207) (Value.int 5 206)), (DictEntry.mk (PyData.keyHash P (Str.ofString "__init__")) (Value.str (Str.ofString "__init__") 216) (Value.ref 35)), (DictEntry.mk (PyData.keyHash P (Str.ofString "__static_attributes__")) (Value.str (Str.ofString "__static_attributes__") 222) (Value.ref 36)), (DictEntry.mk (PyData.keyHash P (Str.ofString "__dict__")) (Value.str (Str.ofString "__dict__") 224) (Value.ref 39)), (DictEntry.mk (PyData.keyHash P (Str.ofString "__weakref__")) (Value.str (Str.ofString "__weakref__") 226) (Value.ref 40)), (DictEntry.mk (PyData.keyHash P (Str.ofString "__doc__")) (Value.str (Str.ofString "__doc__") 227) Value.none)] 4) #[])) ::
(nat_lit 38, (Obj.mk (Value.type "type") none (Data.cls (ClassData.mk (Str.ofString "Interval") [(Value.type "object")] [(Value.ref 38), (Value.type "object")] 37 (Str.ofString "Interval") Bool.true [] [] Bool.false none Bool.false)) #[none, none, (some (Value.str (Str.ofString "Interval") 196)), (some (Value.str (Str.ofString "Interval") 204)), (some (Value.builtin "object.__new__")), (some (Value.bool Bool.true))])) ::
(nat_lit 39, (Obj.mk (Value.type "getset_descriptor") none (Data.fields #[(Value.str (Str.ofString "__dict__") 223), (Value.ref 38), (Value.builtin "function.__dict__"), (Value.builtin "function.__dict__#set")]) #[])) ::
(nat_lit 40, (Obj.mk (Value.type "getset_descriptor") none (Data.fields #[(Value.str (Str.ofString "__weakref__") 225), (Value.ref 38), (Value.builtin "ExceptionGroup.__weakref__"), Value.none]) #[])) ::
(nat_lit 50, (Obj.mk (Value.type "tuple") none (Data.seq #[] 0) #[])) ::
(nat_lit 52, (Obj.mk (Value.type "tuple") none (Data.seq #[(Value.str (Str.ofString "self") 245), (Value.str (Str.ofString "length") 246), (Value.str (Str.ofString "plist") 247)] 0) #[])) ::
(nat_lit 53, (Obj.mk (Value.type "tuple") none (Data.seq #[] 0) #[])) ::
(nat_lit 55, (Obj.mk (Value.type "code") none (Data.fields #[(Value.str (Str.ofString "__init__") 242), (Value.str (Str.ofString "IntervalTree.__init__") 243), (Value.str (Str.ofString "/claim/cut.py") 244), (Value.int 15 0), (Value.int 3 0), (Value.int 0 0), (Value.int 0 0), (Value.int 3 0), (Value.ref 50), (Value.bool Bool.true), (Value.int 181 0), (Value.ref 51), Value.none, (Value.ref 52), (Value.ref 53), (Value.ref 54), (Value.int 248 0), (Value.int 15 0), (Value.str (Str.ofString "/claim/cut.py") 249)]) #[])) ::
(nat_lit 56, (Obj.mk (Value.type "function") none (Data.func (FuncData.mk (Str.ofString "__init__") (Str.ofString "IntervalTree.__init__") (pA (stB 3 0)) (.stmts (pB (stB 3 0))) (pS (stB 3 0)) 3 [] Value.none Value.none Value.none (Value.str (Str.ofString "emacs.intervals") 194) none (Value.ref 55) Value.none 0)) #[])) ::
(nat_lit 57, (Obj.mk (Value.type "tuple") none (Data.seq #[(Value.str (Str.ofString "root") 251)] 0) #[])) ::
(nat_lit 58, (Obj.mk (Value.type "dict") none (Data.dict #[(DictEntry.mk (PyData.keyHash P (Str.ofString "__module__")) (Value.str (Str.ofString "__module__") 237) (Value.str (Str.ofString "emacs.intervals") 194)), (DictEntry.mk (PyData.keyHash P (Str.ofString "__firstlineno__")) (Value.str (Str.ofString "__firstlineno__") 241) (Value.int 13 240)), (DictEntry.mk (PyData.keyHash P (Str.ofString "__init__")) (Value.str (Str.ofString "__init__") 250) (Value.ref 56)), (DictEntry.mk (PyData.keyHash P (Str.ofString "__static_attributes__")) (Value.str (Str.ofString "__static_attributes__") 252) (Value.ref 57)), (DictEntry.mk (PyData.keyHash P (Str.ofString "__dict__")) (Value.str (Str.ofString "__dict__") 254) (Value.ref 60)), (DictEntry.mk (PyData.keyHash P (Str.ofString "__weakref__")) (Value.str (Str.ofString "__weakref__") 256) (Value.ref 61)), (DictEntry.mk (PyData.keyHash P (Str.ofString "__doc__")) (Value.str (Str.ofString "__doc__") 257) Value.none)] 4) #[])) ::
(nat_lit 59, (Obj.mk (Value.type "type") none (Data.cls (ClassData.mk (Str.ofString "IntervalTree") [(Value.type "object")] [(Value.ref 59), (Value.type "object")] 58 (Str.ofString "IntervalTree") Bool.true [] [] Bool.false none Bool.false)) #[none, none, (some (Value.str (Str.ofString "IntervalTree") 230)), (some (Value.str (Str.ofString "IntervalTree") 238)), (some (Value.builtin "object.__new__")), (some (Value.bool Bool.true))])) ::
(nat_lit 60, (Obj.mk (Value.type "getset_descriptor") none (Data.fields #[(Value.str (Str.ofString "__dict__") 253), (Value.ref 59), (Value.builtin "function.__dict__"), (Value.builtin "function.__dict__#set")]) #[])) ::
(nat_lit 61, (Obj.mk (Value.type "getset_descriptor") none (Data.fields #[(Value.str (Str.ofString "__weakref__") 255), (Value.ref 59), (Value.builtin "ExceptionGroup.__weakref__"), Value.none]) #[])) ::
(nat_lit 64, (Obj.mk (Value.type "tuple") none (Data.seq #[] 0) #[])) ::
(nat_lit 66, (Obj.mk (Value.type "tuple") none (Data.seq #[(Value.str (Str.ofString "node") 263)] 0) #[])) ::
(nat_lit 67, (Obj.mk (Value.type "tuple") none (Data.seq #[] 0) #[])) ::
(nat_lit 69, (Obj.mk (Value.type "code") none (Data.fields #[(Value.str (Str.ofString "total_of") 260), (Value.str (Str.ofString "total_of") 261), (Value.str (Str.ofString "/claim/cut.py") 262), (Value.int 17 0), (Value.int 1 0), (Value.int 0 0), (Value.int 0 0), (Value.int 3 0), (Value.ref 64), (Value.bool Bool.true), (Value.int 181 0), (Value.ref 65), Value.none, (Value.ref 66), (Value.ref 67), (Value.ref 68), (Value.int 264 0), (Value.int 17 0), (Value.str (Str.ofString "/claim/cut.py") 265)]) #[])) ::
(nat_lit 70, (Obj.mk (Value.type "function") none (Data.func (FuncData.mk (Str.ofString "total_of") (Str.ofString "total_of") (pA (stA 4)) (.stmts (pB (stA 4))) (pS (stA 4)) 3 [] Value.none Value.none Value.none (Value.str (Str.ofString "emacs.intervals") 194) none (Value.ref 69) Value.none 0)) #[])) ::
(nat_lit 71, (Obj.mk (Value.type "tuple") none (Data.seq #[] 0) #[])) ::
(nat_lit 73, (Obj.mk (Value.type "tuple") none (Data.seq #[(Value.str (Str.ofString "node") 270)] 0) #[])) ::
(nat_lit 74, (Obj.mk (Value.type "tuple") none (Data.seq #[] 0) #[])) ::
(nat_lit 76, (Obj.mk (Value.type "code") none (Data.fields #[(Value.str (Str.ofString "own_length") 267), (Value.str (Str.ofString "own_length") 268), (Value.str (Str.ofString "/claim/cut.py") 269), (Value.int 19 0), (Value.int 1 0), (Value.int 0 0), (Value.int 0 0), (Value.int 3 0), (Value.ref 71), (Value.bool Bool.true), (Value.int 181 0), (Value.ref 72), Value.none, (Value.ref 73), (Value.ref 74), (Value.ref 75), (Value.int 271 0), (Value.int 19 0), (Value.str (Str.ofString "/claim/cut.py") 272)]) #[])) ::
(nat_lit 77, (Obj.mk (Value.type "function") none (Data.func (FuncData.mk (Str.ofString "own_length") (Str.ofString "own_length") (pA (stA 5)) (.stmts (pB (stA 5))) (pS (stA 5)) 3 [] Value.none Value.none Value.none (Value.str (Str.ofString "emacs.intervals") 194) none (Value.ref 76) Value.none 0)) #[])) ::
(nat_lit 78, (Obj.mk (Value.type "tuple") none (Data.seq #[] 0) #[])) ::
(nat_lit 80, (Obj.mk (Value.type "tuple") none (Data.seq #[(Value.str (Str.ofString "tree") 277)] 0) #[])) ::
(nat_lit 81, (Obj.mk (Value.type "tuple") none (Data.seq #[] 0) #[])) ::
(nat_lit 83, (Obj.mk (Value.type "code") none (Data.fields #[(Value.str (Str.ofString "text_length") 274), (Value.str (Str.ofString "text_length") 275), (Value.str (Str.ofString "/claim/cut.py") 276), (Value.int 21 0), (Value.int 1 0), (Value.int 0 0), (Value.int 0 0), (Value.int 3 0), (Value.ref 78), (Value.bool Bool.true), (Value.int 181 0), (Value.ref 79), Value.none, (Value.ref 80), (Value.ref 81), (Value.ref 82), (Value.int 278 0), (Value.int 21 0), (Value.str (Str.ofString "/claim/cut.py") 279)]) #[])) ::
(nat_lit 84, (Obj.mk (Value.type "function") none (Data.func (FuncData.mk (Str.ofString "text_length") (Str.ofString "text_length") (pA (stA 6)) (.stmts (pB (stA 6))) (pS (stA 6)) 3 [] Value.none Value.none Value.none (Value.str (Str.ofString "emacs.intervals") 194) none (Value.ref 83) Value.none 0)) #[])) ::
(nat_lit 85, (Obj.mk (Value.type "tuple") none (Data.seq #[] 0) #[])) ::
(nat_lit 87, (Obj.mk (Value.type "tuple") none (Data.seq #[(Value.str (Str.ofString "tree") 284), (Value.str (Str.ofString "node") 285), (Value.str (Str.ofString "other") 286), (Value.str (Str.ofString "parent") 287)] 0) #[])) ::
(nat_lit 88, (Obj.mk (Value.type "tuple") none (Data.seq #[] 0) #[])) ::
(nat_lit 90, (Obj.mk (Value.type "code") none (Data.fields #[(Value.str (Str.ofString "put_in_stead") 281), (Value.str (Str.ofString "put_in_stead") 282), (Value.str (Str.ofString "/claim/cut.py") 283), (Value.int 23 0), (Value.int 3 0), (Value.int 0 0), (Value.int 0 0), (Value.int 3 0), (Value.ref 85), (Value.bool Bool.true), (Value.int 181 0), (Value.ref 86), Value.none, (Value.ref 87), (Value.ref 88), (Value.ref 89), (Value.int 288 0), (Value.int 23 0), (Value.str (Str.ofString "/claim/cut.py") 289)]) #[])) ::
(nat_lit 91, (Obj.mk (Value.type "function") none (Data.func (FuncData.mk (Str.ofString "put_in_stead") (Str.ofString "put_in_stead") (pA (stA 7)) (.stmts (pB (stA 7))) (pS (stA 7)) 3 [] Value.none Value.none Value.none (Value.str (Str.ofString "emacs.intervals") 194) none (Value.ref 90) Value.none 0)) #[])) ::
(nat_lit 92, (Obj.mk (Value.type "tuple") none (Data.seq #[] 0) #[])) ::
(nat_lit 94, (Obj.mk (Value.type "tuple") none (Data.seq #[(Value.str (Str.ofString "node") 294), (Value.str (Str.ofString "son") 295)] 0) #[])) ::
(nat_lit 95, (Obj.mk (Value.type "tuple") none (Data.seq #[] 0) #[])) ::
(nat_lit 97, (Obj.mk (Value.type "code") none (Data.fields #[(Value.str (Str.ofString "set_left") 291), (Value.str (Str.ofString "set_left") 292), (Value.str (Str.ofString "/claim/cut.py") 293), (Value.int 33 0), (Value.int 2 0), (Value.int 0 0), (Value.int 0 0), (Value.int 3 0), (Value.ref 92), (Value.bool Bool.true), (Value.int 181 0), (Value.ref 93), Value.none, (Value.ref 94), (Value.ref 95), (Value.ref 96), (Value.int 296 0), (Value.int 33 0), (Value.str (Str.ofString "/claim/cut.py") 297)]) #[])) ::
(nat_lit 98, (Obj.mk (Value.type "function") none (Data.func (FuncData.mk (Str.ofString "set_left") (Str.ofString "set_left") (pA (stA 8)) (.stmts (pB (stA 8))) (pS (stA 8)) 3 [] Value.none Value.none Value.none (Value.str (Str.ofString "emacs.intervals") 194) none (Value.ref 97) Value.none 0)) #[])) ::
(nat_lit 99, (Obj.mk (Value.type "tuple") none (Data.seq #[] 0) #[])) ::
(nat_lit 101, (Obj.mk (Value.type "tuple") none (Data.seq #[(Value.str (Str.ofString "node") 302), (Value.str (Str.ofString "son") 303)] 0) #[])) ::
(nat_lit 102, (Obj.mk (Value.type "tuple") none (Data.seq #[] 0) #[])) ::
(nat_lit 104, (Obj.mk (Value.type "code") none (Data.fields #[(Value.str (Str.ofString "set_right") 299), (Value.str (Str.ofString "set_right") 300), (Value.str (Str.ofString "/claim/cut.py") 301), (Value.int 37 0), (Value.int 2 0), (Value.int 0 0), (Value.int 0 0), (Value.int 3 0), (Value.ref 99), (Value.bool Bool.true), (Value.int 181 0), (Value.ref 100), Value.none, (Value.ref 101), (Value.ref 102), (Value.ref 103), (Value.int 304 0), (Value.int 37 0), (Value.str (Str.ofString "/claim/cut.py") 305)]) #[])) ::
(nat_lit 105, (Obj.mk (Value.type "function") none (Data.func (FuncData.mk (Str.ofString "set_right") (Str.ofString "set_right") (pA (stA 9)) (.stmts (pB (stA 9))) (pS (stA 9)) 3 [] Value.none Value.none Value.none (Value.str (Str.ofString "emacs.intervals") 194) none (Value.ref 104) Value.none 0)) #[])) ::
(nat_lit 106, (Obj.mk (Value.type "tuple") none (Data.seq #[] 0) #[])) ::
(nat_lit 108, (Obj.mk (Value.type "tuple") none (Data.seq #[(Value.str (Str.ofString "tree") 310), (Value.str (Str.ofString "node") 311), (Value.str (Str.ofString "son") 312), (Value.str (Str.ofString "total") 313)] 0) #[])) ::
(nat_lit 109, (Obj.mk (Value.type "tuple") none (Data.seq #[] 0) #[])) ::
(nat_lit 111, (Obj.mk (Value.type "code") none (Data.fields #[(Value.str (Str.ofString "rotate_right") 307), (Value.str (Str.ofString "rotate_right") 308), (Value.str (Str.ofString "/claim/cut.py") 309), (Value.int 41 0), (Value.int 2 0), (Value.int 0 0), (Value.int 0 0), (Value.int 3 0), (Value.ref 106), (Value.bool Bool.true), (Value.int 181 0), (Value.ref 107), Value.none, (Value.ref 108), (Value.ref 109), (Value.ref 110), (Value.int 314 0), (Value.int 41 0), (Value.str (Str.ofString "/claim/cut.py") 315)]) #[])) ::
(nat_lit 112, (Obj.mk (Value.type "function") none (Data.func (FuncData.mk (Str.ofString "rotate_right") (Str.ofString "rotate_right") (pA (stA 10)) (.stmts (pB (stA 10))) (pS (stA 10)) 3 [] Value.none Value.none Value.none (Value.str (Str.ofString "emacs.intervals") 194) none (Value.ref 111) Value.none 0)) #[])) ::
(nat_lit 113, (Obj.mk (Value.type "tuple") none (Data.seq #[] 0) #[])) ::
(nat_lit 115, (Obj.mk (Value.type "tuple") none (Data.seq #[(Value.str (Str.ofString "tree") 320), (Value.str (Str.ofString "node") 321), (Value.str (Str.ofString "son") 322), (Value.str (Str.ofString "total") 323)] 0) #[])) ::
(nat_lit 116, (Obj.mk (Value.type "tuple") none (Data.seq #[] 0) #[])) ::
(nat_lit 118, (Obj.mk (Value.type "code") none (Data.fields #[(Value.str (Str.ofString "rotate_left") 317), (Value.str (Str.ofString "rotate_left") 318), (Value.str (Str.ofString "/claim/cut.py") 319), (Value.int 50 0), (Value.int 2 0), (Value.int 0 0), (Value.int 0 0), (Value.int 3 0), (Value.ref 113), (Value.bool Bool.true), (Value.int 181 0), (Value.ref 114), Value.none, (Value.ref 115), (Value.ref 116), (Value.ref 117), (Value.int 324 0), (Value.int 50 0), (Value.str (Str.ofString "/claim/cut.py") 325)]) #[])) ::
(nat_lit 119, (Obj.mk (Value.type "function") none (Data.func (FuncData.mk (Str.ofString "rotate_left") (Str.ofString "rotate_left") (pA (stA 11)) (.stmts (pB (stA 11))) (pS (stA 11)) 3 [] Value.none Value.none Value.none (Value.str (Str.ofString "emacs.intervals") 194) none (Value.ref 118) Value.none 0)) #[])) ::
(nat_lit 120, (Obj.mk (Value.type "tuple") none (Data.seq #[] 0) #[])) ::
(nat_lit 122, (Obj.mk (Value.type "tuple") none (Data.seq #[(Value.str (Str.ofString "node") 330), (Value.str (Str.ofString "son") 331), (Value.str (Str.ofString "difference") 332)] 0) #[])) ::
(nat_lit 123, (Obj.mk (Value.type "tuple") none (Data.seq #[] 0) #[])) ::
(nat_lit 125, (Obj.mk (Value.type "code") none (Data.fields #[(Value.str (Str.ofString "right_turn_helps") 327), (Value.str (Str.ofString "right_turn_helps") 328), (Value.str (Str.ofString "/claim/cut.py") 329), (Value.int 59 0), (Value.int 1 0), (Value.int 0 0), (Value.int 0 0), (Value.int 3 0), (Value.ref 120), (Value.bool Bool.true), (Value.int 181 0), (Value.ref 121), Value.none, (Value.ref 122), (Value.ref 123), (Value.ref 124), (Value.int 333 0), (Value.int 59 0), (Value.str (Str.ofString "/claim/cut.py") 334)]) #[])) ::
(nat_lit 126, (Obj.mk (Value.type "function") none (Data.func (FuncData.mk (Str.ofString "right_turn_helps") (Str.ofString "right_turn_helps") (pA (stA 12)) (.stmts (pB (stA 12))) (pS (stA 12)) 3 [] Value.none Value.none Value.none (Value.str (Str.ofString "emacs.intervals") 194) none (Value.ref 125) Value.none 0)) #[])) ::
(nat_lit 127, (Obj.mk (Value.type "tuple") none (Data.seq #[] 0) #[])) ::
(nat_lit 129, (Obj.mk (Value.type "tuple") none (Data.seq #[(Value.str (Str.ofString "node") 339), (Value.str (Str.ofString "son") 340), (Value.str (Str.ofString "difference") 341)] 0) #[])) ::
(nat_lit 130, (Obj.mk (Value.type "tuple") none (Data.seq #[] 0) #[])) ::
(nat_lit 132, (Obj.mk (Value.type "code") none (Data.fields #[(Value.str (Str.ofString "left_turn_helps") 336), (Value.str (Str.ofString "left_turn_helps") 337), (Value.str (Str.ofString "/claim/cut.py") 338), (Value.int 65 0), (Value.int 1 0), (Value.int 0 0), (Value.int 0 0), (Value.int 3 0), (Value.ref 127), (Value.bool Bool.true), (Value.int 181 0), (Value.ref 128), Value.none, (Value.ref 129), (Value.ref 130), (Value.ref 131), (Value.int 342 0), (Value.int 65 0), (Value.str (Str.ofString "/claim/cut.py") 343)]) #[])) ::
(nat_lit 133, (Obj.mk (Value.type "function") none (Data.func (FuncData.mk (Str.ofString "left_turn_helps") (Str.ofString "left_turn_helps") (pA (stA 13)) (.stmts (pB (stA 13))) (pS (stA 13)) 3 [] Value.none Value.none Value.none (Value.str (Str.ofString "emacs.intervals") 194) none (Value.ref 132) Value.none 0)) #[])) ::
(nat_lit 134, (Obj.mk (Value.type "tuple") none (Data.seq #[] 0) #[])) ::
(nat_lit 136, (Obj.mk (Value.type "tuple") none (Data.seq #[(Value.str (Str.ofString "tree") 348), (Value.str (Str.ofString "node") 349), (Value.str (Str.ofString "waiting") 350), (Value.str (Str.ofString "top") 351), (Value.str (Str.ofString "here") 352), (Value.str (Str.ofString "son") 353)] 0) #[])) ::
(nat_lit 137, (Obj.mk (Value.type "tuple") none (Data.seq #[] 0) #[])) ::
(nat_lit 139, (Obj.mk (Value.type "code") none (Data.fields #[(Value.str (Str.ofString "settle") 345), (Value.str (Str.ofString "settle") 346), (Value.str (Str.ofString "/claim/cut.py") 347), (Value.int 71 0), (Value.int 2 0), (Value.int 0 0), (Value.int 0 0), (Value.int 3 0), (Value.ref 134), (Value.bool Bool.true), (Value.int 181 0), (Value.ref 135), Value.none, (Value.ref 136), (Value.ref 137), (Value.ref 138), (Value.int 354 0), (Value.int 71 0), (Value.str (Str.ofString "/claim/cut.py") 355)]) #[])) ::
(nat_lit 140, (Obj.mk (Value.type "function") none (Data.func (FuncData.mk (Str.ofString "settle") (Str.ofString "settle") (pA (stA 14)) (.stmts (pB (stA 14))) (pS (stA 14)) 3 [] Value.none Value.none Value.none (Value.str (Str.ofString "emacs.intervals") 194) none (Value.ref 139) Value.none 0)) #[])) ::
(nat_lit 141, (Obj.mk (Value.type "tuple") none (Data.seq #[] 0) #[])) ::
(nat_lit 143, (Obj.mk (Value.type "tuple") none (Data.seq #[(Value.str (Str.ofString "tree") 360), (Value.str (Str.ofString "node") 361)] 0) #[])) ::
(nat_lit 144, (Obj.mk (Value.type "tuple") none (Data.seq #[] 0) #[])) ::
(nat_lit 146, (Obj.mk (Value.type "code") none (Data.fields #[(Value.str (Str.ofString "settle_up") 357), (Value.str (Str.ofString "settle_up") 358), (Value.str (Str.ofString "/claim/cut.py") 359), (Value.int 85 0), (Value.int 2 0), (Value.int 0 0), (Value.int 0 0), (Value.int 3 0), (Value.ref 141), (Value.bool Bool.true), (Value.int 181 0), (Value.ref 142), Value.none, (Value.ref 143), (Value.ref 144), (Value.ref 145), (Value.int 362 0), (Value.int 85 0), (Value.str (Str.ofString "/claim/cut.py") 363)]) #[])) ::
(nat_lit 147, (Obj.mk (Value.type "function") none (Data.func (FuncData.mk (Str.ofString "settle_up") (Str.ofString "settle_up") (pA (stA 15)) (.stmts (pB (stA 15))) (pS (stA 15)) 3 [] Value.none Value.none Value.none (Value.str (Str.ofString "emacs.intervals") 194) none (Value.ref 146) Value.none 0)) #[])) ::
(nat_lit 148, (Obj.mk (Value.type "tuple") none (Data.seq #[] 0) #[])) ::
(nat_lit 150, (Obj.mk (Value.type "tuple") none (Data.seq #[(Value.str (Str.ofString "node") 368), (Value.str (Str.ofString "many") 369)] 0) #[])) ::
(nat_lit 151, (Obj.mk (Value.type "tuple") none (Data.seq #[] 0) #[])) ::
(nat_lit 153, (Obj.mk (Value.type "code") none (Data.fields #[(Value.str (Str.ofString "add_above") 365), (Value.str (Str.ofString "add_above") 366), (Value.str (Str.ofString "/claim/cut.py") 367), (Value.int 88 0), (Value.int 2 0), (Value.int 0 0), (Value.int 0 0), (Value.int 3 0), (Value.ref 148), (Value.bool Bool.true), (Value.int 181 0), (Value.ref 149), Value.none, (Value.ref 150), (Value.ref 151), (Value.ref 152), (Value.int 370 0), (Value.int 88 0), (Value.str (Str.ofString "/claim/cut.py") 371)]) #[])) ::
(nat_lit 154, (Obj.mk (Value.type "function") none (Data.func (FuncData.mk (Str.ofString "add_above") (Str.ofString "add_above") (pA (stA 16)) (.stmts (pB (stA 16))) (pS (stA 16)) 3 [] Value.none Value.none Value.none (Value.str (Str.ofString "emacs.intervals") 194) none (Value.ref 153) Value.none 0)) #[])) ::
(nat_lit 155, (Obj.mk (Value.type "tuple") none (Data.seq #[] 0) #[])) ::
(nat_lit 157, (Obj.mk (Value.type "tuple") none (Data.seq #[(Value.str (Str.ofString "tree") 376), (Value.str (Str.ofString "at") 377), (Value.str (Str.ofString "node") 378), (Value.str (Str.ofString "begin") 379), (Value.str (Str.ofString "ahead") 380), (Value.str (Str.ofString "own") 381)] 0) #[])) ::
(nat_lit 158, (Obj.mk (Value.type "tuple") none (Data.seq #[] 0) #[])) ::
(nat_lit 160, (Obj.mk (Value.type "code") none (Data.fields #[(Value.str (Str.ofString "find_interval") 373), (Value.str (Str.ofString "find_interval") 374), (Value.str (Str.ofString "/claim/cut.py") 375), (Value.int 92 0), (Value.int 2 0), (Value.int 0 0), (Value.int 0 0), (Value.int 3 0), (Value.ref 155), (Value.bool Bool.true), (Value.int 181 0), (Value.ref 156), Value.none, (Value.ref 157), (Value.ref 158), (Value.ref 159), (Value.int 382 0), (Value.int 92 0), (Value.str (Str.ofString "/claim/cut.py") 383)]) #[])) ::
(nat_lit 161, (Obj.mk (Value.type "function") none (Data.func (FuncData.mk (Str.ofString "find_interval") (Str.ofString "find_interval") (pA (stA 17)) (.stmts (pB (stA 17))) (pS (stA 17)) 3 [] Value.none Value.none Value.none (Value.str (Str.ofString "emacs.intervals") 194) none (Value.ref 160) Value.none 0)) #[])) ::
(nat_lit 162, (Obj.mk (Value.type "tuple") none (Data.seq #[] 0) #[])) ::
(nat_lit 164, (Obj.mk (Value.type "tuple") none (Data.seq #[(Value.str (Str.ofString "node") 388)] 0) #[])) ::
(nat_lit 165, (Obj.mk (Value.type "tuple") none (Data.seq #[] 0) #[])) ::
(nat_lit 167, (Obj.mk (Value.type "code") none (Data.fields #[(Value.str (Str.ofString "leftmost") 385), (Value.str (Str.ofString "leftmost") 386), (Value.str (Str.ofString "/claim/cut.py") 387), (Value.int 105 0), (Value.int 1 0), (Value.int 0 0), (Value.int 0 0), (Value.int 3 0), (Value.ref 162), (Value.bool Bool.true), (Value.int 181 0), (Value.ref 163), Value.none, (Value.ref 164), (Value.ref 165), (Value.ref 166), (Value.int 389 0), (Value.int 105 0), (Value.str (Str.ofString "/claim/cut.py") 390)]) #[])) ::
(nat_lit 168, (Obj.mk (Value.type "function") none (Data.func (FuncData.mk (Str.ofString "leftmost") (Str.ofString "leftmost") (pA (stA 18)) (.stmts (pB (stA 18))) (pS (stA 18)) 3 [] Value.none Value.none Value.none (Value.str (Str.ofString "emacs.intervals") 194) none (Value.ref 167) Value.none 0)) #[])) ::
(nat_lit 169, (Obj.mk (Value.type "tuple") none (Data.seq #[] 0) #[])) ::
(nat_lit 171, (Obj.mk (Value.type "tuple") none (Data.seq #[(Value.str (Str.ofString "node") 395)] 0) #[])) ::
(nat_lit 172, (Obj.mk (Value.type "tuple") none (Data.seq #[] 0) #[])) ::
(nat_lit 174, (Obj.mk (Value.type "code") none (Data.fields #[(Value.str (Str.ofString "rightmost") 392), (Value.str (Str.ofString "rightmost") 393), (Value.str (Str.ofString "/claim/cut.py") 394), (Value.int 109 0), (Value.int 1 0), (Value.int 0 0), (Value.int 0 0), (Value.int 3 0), (Value.ref 169), (Value.bool Bool.true), (Value.int 181 0), (Value.ref 170), Value.none, (Value.ref 171), (Value.ref 172), (Value.ref 173), (Value.int 396 0), (Value.int 109 0), (Value.str (Str.ofString "/claim/cut.py") 397)]) #[])) ::
(nat_lit 175, (Obj.mk (Value.type "function") none (Data.func (FuncData.mk (Str.ofString "rightmost") (Str.ofString "rightmost") (pA (stA 19)) (.stmts (pB (stA 19))) (pS (stA 19)) 3 [] Value.none Value.none Value.none (Value.str (Str.ofString "emacs.intervals") 194) none (Value.ref 174) Value.none 0)) #[])) ::
(nat_lit 176, (Obj.mk (Value.type "tuple") none (Data.seq #[] 0) #[])) ::
(nat_lit 178, (Obj.mk (Value.type "tuple") none (Data.seq #[(Value.str (Str.ofString "node") 402)] 0) #[])) ::
(nat_lit 179, (Obj.mk (Value.type "tuple") none (Data.seq #[] 0) #[])) ::
(nat_lit 181, (Obj.mk (Value.type "code") none (Data.fields #[(Value.str (Str.ofString "following") 399), (Value.str (Str.ofString "following") 400), (Value.str (Str.ofString "/claim/cut.py") 401), (Value.int 113 0), (Value.int 1 0), (Value.int 0 0), (Value.int 0 0), (Value.int 3 0), (Value.ref 176), (Value.bool Bool.true), (Value.int 181 0), (Value.ref 177), Value.none, (Value.ref 178), (Value.ref 179), (Value.ref 180), (Value.int 403 0), (Value.int 113 0), (Value.str (Str.ofString "/claim/cut.py") 404)]) #[])) ::
(nat_lit 182, (Obj.mk (Value.type "function") none (Data.func (FuncData.mk (Str.ofString "following") (Str.ofString "following") (pA (stA 20)) (.stmts (pB (stA 20))) (pS (stA 20)) 3 [] Value.none Value.none Value.none (Value.str (Str.ofString "emacs.intervals") 194) none (Value.ref 181) Value.none 0)) #[])) ::
(nat_lit 183, (Obj.mk (Value.type "tuple") none (Data.seq #[] 0) #[])) ::
(nat_lit 185, (Obj.mk (Value.type "tuple") none (Data.seq #[(Value.str (Str.ofString "node") 409)] 0) #[])) ::
(nat_lit 186, (Obj.mk (Value.type "tuple") none (Data.seq #[] 0) #[])) ::
(nat_lit 188, (Obj.mk (Value.type "code") none (Data.fields #[(Value.str (Str.ofString "preceding") 406), (Value.str (Str.ofString "preceding") 407), (Value.str (Str.ofString "/claim/cut.py") 408), (Value.int 119 0), (Value.int 1 0), (Value.int 0 0), (Value.int 0 0), (Value.int 3 0), (Value.ref 183), (Value.bool Bool.true), (Value.int 181 0), (Value.ref 184), Value.none, (Value.ref 185), (Value.ref 186), (Value.ref 187), (Value.int 410 0), (Value.int 119 0), (Value.str (Str.ofString "/claim/cut.py") 411)]) #[])) ::
(nat_lit 189, (Obj.mk (Value.type "function") none (Data.func (FuncData.mk (Str.ofString "preceding") (Str.ofString "preceding") (pA (stA 21)) (.stmts (pB (stA 21))) (pS (stA 21)) 3 [] Value.none Value.none Value.none (Value.str (Str.ofString "emacs.intervals") 194) none (Value.ref 188) Value.none 0)) #[])) ::
(nat_lit 190, (Obj.mk (Value.type "tuple") none (Data.seq #[] 0) #[])) ::
(nat_lit 192, (Obj.mk (Value.type "tuple") none (Data.seq #[(Value.str (Str.ofString "tree") 416), (Value.str (Str.ofString "node") 417), (Value.str (Str.ofString "fresh") 418)] 0) #[])) ::
(nat_lit 193, (Obj.mk (Value.type "tuple") none (Data.seq #[] 0) #[])) ::
(nat_lit 195, (Obj.mk (Value.type "code") none (Data.fields #[(Value.str (Str.ofString "put_behind") 413), (Value.str (Str.ofString "put_behind") 414), (Value.str (Str.ofString "/claim/cut.py") 415), (Value.int 125 0), (Value.int 3 0), (Value.int 0 0), (Value.int 0 0), (Value.int 3 0), (Value.ref 190), (Value.bool Bool.true), (Value.int 181 0), (Value.ref 191), Value.none, (Value.ref 192), (Value.ref 193), (Value.ref 194), (Value.int 419 0), (Value.int 125 0), (Value.str (Str.ofString "/claim/cut.py") 420)]) #[])) ::
(nat_lit 196, (Obj.mk (Value.type "function") none (Data.func (FuncData.mk (Str.ofString "put_behind") (Str.ofString "put_behind") (pA (stA 22)) (.stmts (pB (stA 22))) (pS (stA 22)) 3 [] Value.none Value.none Value.none (Value.str (Str.ofString "emacs.intervals") 194) none (Value.ref 195) Value.none 0)) #[])) ::
(nat_lit 197, (Obj.mk (Value.type "tuple") none (Data.seq #[] 0) #[])) ::
(nat_lit 199, (Obj.mk (Value.type "tuple") none (Data.seq #[(Value.str (Str.ofString "tree") 425), (Value.str (Str.ofString "node") 426), (Value.str (Str.ofString "fresh") 427), (Value.str (Str.ofString "before") 428)] 0) #[])) ::
(nat_lit 200, (Obj.mk (Value.type "tuple") none (Data.seq #[] 0) #[])) ::
(nat_lit 202, (Obj.mk (Value.type "code") none (Data.fields #[(Value.str (Str.ofString "put_ahead") 422), (Value.str (Str.ofString "put_ahead") 423), (Value.str (Str.ofString "/claim/cut.py") 424), (Value.int 133 0), (Value.int 3 0), (Value.int 0 0), (Value.int 0 0), (Value.int 3 0), (Value.ref 197), (Value.bool Bool.true), (Value.int 181 0), (Value.ref 198), Value.none, (Value.ref 199), (Value.ref 200), (Value.ref 201), (Value.int 429 0), (Value.int 133 0), (Value.str (Str.ofString "/claim/cut.py") 430)]) #[])) ::
(nat_lit 203, (Obj.mk (Value.type "function") none (Data.func (FuncData.mk (Str.ofString "put_ahead") (Str.ofString "put_ahead") (pA (stA 23)) (.stmts (pB (stA 23))) (pS (stA 23)) 3 [] Value.none Value.none Value.none (Value.str (Str.ofString "emacs.intervals") 194) none (Value.ref 202) Value.none 0)) #[])) ::
(nat_lit 204, (Obj.mk (Value.type "tuple") none (Data.seq #[] 0) #[])) ::
(nat_lit 206, (Obj.mk (Value.type "tuple") none (Data.seq #[(Value.str (Str.ofString "tree") 435), (Value.str (Str.ofString "at") 436), (Value.str (Str.ofString "node") 437), (Value.str (Str.ofString "begin") 438), (Value.str (Str.ofString "rest") 439)] 0) #[])) ::
(nat_lit 207, (Obj.mk (Value.type "tuple") none (Data.seq #[] 0) #[])) ::
(nat_lit 209, (Obj.mk (Value.type "code") none (Data.fields #[(Value.str (Str.ofString "split_at") 432), (Value.str (Str.ofString "split_at") 433), (Value.str (Str.ofString "/claim/cut.py") 434), (Value.int 141 0), (Value.int 2 0), (Value.int 0 0), (Value.int 0 0), (Value.int 3 0), (Value.ref 204), (Value.bool Bool.true), (Value.int 181 0), (Value.ref 205), Value.none, (Value.ref 206), (Value.ref 207), (Value.ref 208), (Value.int 440 0), (Value.int 141 0), (Value.str (Str.ofString "/claim/cut.py") 441)]) #[])) ::
(nat_lit 210, (Obj.mk (Value.type "function") none (Data.func (FuncData.mk (Str.ofString "split_at") (Str.ofString "split_at") (pA (stA 24)) (.stmts (pB (stA 24))) (pS (stA 24)) 3 [] Value.none Value.none Value.none (Value.str (Str.ofString "emacs.intervals") 194) none (Value.ref 209) Value.none 0)) #[])) ::
(nat_lit 211, (Obj.mk (Value.type "tuple") none (Data.seq #[] 0) #[])) ::
(nat_lit 213, (Obj.mk (Value.type "tuple") none (Data.seq #[(Value.str (Str.ofString "tree") 446), (Value.str (Str.ofString "node") 447), (Value.str (Str.ofString "above") 448), (Value.str (Str.ofString "son") 449), (Value.str (Str.ofString "moved") 450), (Value.str (Str.ofString "here") 451)] 0) #[])) ::
(nat_lit 214, (Obj.mk (Value.type "tuple") none (Data.seq #[] 0) #[])) ::
(nat_lit 216, (Obj.mk (Value.type "code") none (Data.fields #[(Value.str (Str.ofString "drop_interval") 443), (Value.str (Str.ofString "drop_interval") 444), (Value.str (Str.ofString "/claim/cut.py") 445), (Value.int 150 0), (Value.int 2 0), (Value.int 0 0), (Value.int 0 0), (Value.int 3 0), (Value.ref 211), (Value.bool Bool.true), (Value.int 181 0), (Value.ref 212), Value.none, (Value.ref 213), (Value.ref 214), (Value.ref 215), (Value.int 452 0), (Value.int 150 0), (Value.str (Str.ofString "/claim/cut.py") 453)]) #[])) ::
(nat_lit 217, (Obj.mk (Value.type "function") none (Data.func (FuncData.mk (Str.ofString "drop_interval") (Str.ofString "drop_interval") (pA (stA 25)) (.stmts (pB (stA 25))) (pS (stA 25)) 3 [] Value.none Value.none Value.none (Value.str (Str.ofString "emacs.intervals") 194) none (Value.ref 216) Value.none 0)) #[])) ::
(nat_lit 218, (Obj.mk (Value.type "tuple") none (Data.seq #[] 0) #[])) ::
(nat_lit 220, (Obj.mk (Value.type "tuple") none (Data.seq #[(Value.str (Str.ofString "tree") 458), (Value.str (Str.ofString "at") 459), (Value.str (Str.ofString "many") 460), (Value.str (Str.ofString "plist") 461), (Value.str (Str.ofString "fresh") 462)] 0) #[])) ::
(nat_lit 221, (Obj.mk (Value.type "tuple") none (Data.seq #[] 0) #[])) ::
(nat_lit 223, (Obj.mk (Value.type "code") none (Data.fields #[(Value.str (Str.ofString "insert_interval") 455), (Value.str (Str.ofString "insert_interval") 456), (Value.str (Str.ofString "/claim/cut.py") 457), (Value.int 166 0), (Value.int 4 0), (Value.int 0 0), (Value.int 0 0), (Value.int 3 0), (Value.ref 218), (Value.bool Bool.true), (Value.int 181 0), (Value.ref 219), Value.none, (Value.ref 220), (Value.ref 221), (Value.ref 222), (Value.int 463 0), (Value.int 166 0), (Value.str (Str.ofString "/claim/cut.py") 464)]) #[])) ::
(nat_lit 224, (Obj.mk (Value.type "function") none (Data.func (FuncData.mk (Str.ofString "insert_interval") (Str.ofString "insert_interval") (pA (stA 26)) (.stmts (pB (stA 26))) (pS (stA 26)) 3 [] Value.none Value.none Value.none (Value.str (Str.ofString "emacs.intervals") 194) none (Value.ref 223) Value.none 0)) #[])) ::
(nat_lit 225, (Obj.mk (Value.type "tuple") none (Data.seq #[] 0) #[])) ::
(nat_lit 227, (Obj.mk (Value.type "tuple") none (Data.seq #[(Value.str (Str.ofString "one") 471), (Value.str (Str.ofString "other") 472)] 0) #[])) ::
(nat_lit 228, (Obj.mk (Value.type "tuple") none (Data.seq #[] 0) #[])) ::
(nat_lit 230, (Obj.mk (Value.type "code") none (Data.fields #[(Value.str (Str.ofString "eq") 468), (Value.str (Str.ofString "eq") 469), (Value.str (Str.ofString "/claim/cut.py") 470), (Value.int 179 0), (Value.int 2 0), (Value.int 0 0), (Value.int 0 0), (Value.int 3 0), (Value.ref 225), (Value.bool Bool.true), (Value.int 181 0), (Value.ref 226), Value.none, (Value.ref 227), (Value.ref 228), (Value.ref 229), (Value.int 473 0), (Value.int 179 0), (Value.str (Str.ofString "/claim/cut.py") 474)]) #[])) ::
(nat_lit 231, (Obj.mk (Value.type "function") none (Data.func (FuncData.mk (Str.ofString "eq") (Str.ofString "eq") (pA (stA 28)) (.stmts (pB (stA 28))) (pS (stA 28)) 3 [] Value.none Value.none Value.none (Value.str (Str.ofString "emacs.plists") 466) none (Value.ref 230) Value.none 0)) #[])) ::
(nat_lit 232, (Obj.mk (Value.type "tuple") none (Data.seq #[] 0) #[])) ::
(nat_lit 234, (Obj.mk (Value.type "tuple") none (Data.seq #[(Value.str (Str.ofString "plist") 479), (Value.str (Str.ofString "number") 480), (Value.str (Str.ofString "at") 481)] 0) #[])) ::
(nat_lit 235, (Obj.mk (Value.type "tuple") none (Data.seq #[] 0) #[])) ::
(nat_lit 237, (Obj.mk (Value.type "code") none (Data.fields #[(Value.str (Str.ofString "plist_find") 476), (Value.str (Str.ofString "plist_find") 477), (Value.str (Str.ofString "/claim/cut.py") 478), (Value.int 183 0), (Value.int 2 0), (Value.int 0 0), (Value.int 0 0), (Value.int 3 0), (Value.ref 232), (Value.bool Bool.true), (Value.int 181 0), (Value.ref 233), Value.none, (Value.ref 234), (Value.ref 235), (Value.ref 236), (Value.int 482 0), (Value.int 183 0), (Value.str (Str.ofString "/claim/cut.py") 483)]) #[])) ::
(nat_lit 238, (Obj.mk (Value.type "function") none (Data.func (FuncData.mk (Str.ofString "plist_find") (Str.ofString "plist_find") (pA (stA 29)) (.stmts (pB (stA 29))) (pS (stA 29)) 3 [] Value.none Value.none Value.none (Value.str (Str.ofString "emacs.plists") 466) none (Value.ref 237) Value.none 0)) #[])) ::
(nat_lit 239, (Obj.mk (Value.type "tuple") none (Data.seq #[] 0) #[])) ::
(nat_lit 241, (Obj.mk (Value.type "tuple") none (Data.seq #[(Value.str (Str.ofString "plist") 488), (Value.str (Str.ofString "number") 489), (Value.str (Str.ofString "at") 490)] 0) #[])) ::
(nat_lit 242, (Obj.mk (Value.type "tuple") none (Data.seq #[] 0) #[])) ::
(nat_lit 244, (Obj.mk (Value.type "code") none (Data.fields #[(Value.str (Str.ofString "plist_get") 485), (Value.str (Str.ofString "plist_get") 486), (Value.str (Str.ofString "/claim/cut.py") 487), (Value.int 188 0), (Value.int 2 0), (Value.int 0 0), (Value.int 0 0), (Value.int 3 0), (Value.ref 239), (Value.bool Bool.true), (Value.int 181 0), (Value.ref 240), Value.none, (Value.ref 241), (Value.ref 242), (Value.ref 243), (Value.int 491 0), (Value.int 188 0), (Value.str (Str.ofString "/claim/cut.py") 492)]) #[])) ::
(nat_lit 245, (Obj.mk (Value.type "function") none (Data.func (FuncData.mk (Str.ofString "plist_get") (Str.ofString "plist_get") (pA (stA 30)) (.stmts (pB (stA 30))) (pS (stA 30)) 3 [] Value.none Value.none Value.none (Value.str (Str.ofString "emacs.plists") 466) none (Value.ref 244) Value.none 0)) #[])) ::
(nat_lit 246, (Obj.mk (Value.type "tuple") none (Data.seq #[] 0) #[])) ::
(nat_lit 248, (Obj.mk (Value.type "tuple") none (Data.seq #[(Value.str (Str.ofString "plist") 497), (Value.str (Str.ofString "number") 498), (Value.str (Str.ofString "value") 499), (Value.str (Str.ofString "at") 500)] 0) #[])) ::
(nat_lit 249, (Obj.mk (Value.type "tuple") none (Data.seq #[] 0) #[])) ::
(nat_lit 251, (Obj.mk (Value.type "code") none (Data.fields #[(Value.str (Str.ofString "holds_pair") 494), (Value.str (Str.ofString "holds_pair") 495), (Value.str (Str.ofString "/claim/cut.py") 496), (Value.int 191 0), (Value.int 3 0), (Value.int 0 0), (Value.int 0 0), (Value.int 3 0), (Value.ref 246), (Value.bool Bool.true), (Value.int 181 0), (Value.ref 247), Value.none, (Value.ref 248), (Value.ref 249), (Value.ref 250), (Value.int 501 0), (Value.int 191 0), (Value.str (Str.ofString "/claim/cut.py") 502)]) #[])) ::
(nat_lit 252, (Obj.mk (Value.type "function") none (Data.func (FuncData.mk (Str.ofString "holds_pair") (Str.ofString "holds_pair") (pA (stA 31)) (.stmts (pB (stA 31))) (pS (stA 31)) 3 [] Value.none Value.none Value.none (Value.str (Str.ofString "emacs.plists") 466) none (Value.ref 251) Value.none 0)) #[])) ::
(nat_lit 253, (Obj.mk (Value.type "tuple") none (Data.seq #[] 0) #[])) ::
(nat_lit 255, (Obj.mk (Value.type "tuple") none (Data.seq #[(Value.str (Str.ofString "one") 507), (Value.str (Str.ofString "other") 508), (Value.str (Str.ofString "number") 509), (Value.str (Str.ofString "value") 510)] 0) #[])) ::
(nat_lit 256, (Obj.mk (Value.type "tuple") none (Data.seq #[] 0) #[])) ::
(nat_lit 258, (Obj.mk (Value.type "code") none (Data.fields #[(Value.str (Str.ofString "same_plist") 504), (Value.str (Str.ofString "same_plist") 505), (Value.str (Str.ofString "/claim/cut.py") 506), (Value.int 194 0), (Value.int 2 0), (Value.int 0 0), (Value.int 0 0), (Value.int 3 0), (Value.ref 253), (Value.bool Bool.true), (Value.int 181 0), (Value.ref 254), Value.none, (Value.ref 255), (Value.ref 256), (Value.ref 257), (Value.int 511 0), (Value.int 194 0), (Value.str (Str.ofString "/claim/cut.py") 512)]) #[])) ::
(nat_lit 259, (Obj.mk (Value.type "function") none (Data.func (FuncData.mk (Str.ofString "same_plist") (Str.ofString "same_plist") (pA (stA 32)) (.stmts (pB (stA 32))) (pS (stA 32)) 3 [] Value.none Value.none Value.none (Value.str (Str.ofString "emacs.plists") 466) none (Value.ref 258) Value.none 0)) #[])) ::
(nat_lit 267, (Obj.mk (Value.type "tuple") none (Data.seq #[] 0) #[])) ::
(nat_lit 269, (Obj.mk (Value.type "tuple") none (Data.seq #[(Value.str (Str.ofString "self") 531), (Value.str (Str.ofString "lisp") 532)] 0) #[])) ::
(nat_lit 270, (Obj.mk (Value.type "tuple") none (Data.seq #[] 0) #[])) ::
(nat_lit 272, (Obj.mk (Value.type "code") none (Data.fields #[(Value.str (Str.ofString "__init__") 528), (Value.str (Str.ofString "PropRules.__init__") 529), (Value.str (Str.ofString "/claim/cut.py") 530), (Value.int 204 0), (Value.int 2 0), (Value.int 0 0), (Value.int 0 0), (Value.int 3 0), (Value.ref 267), (Value.bool Bool.true), (Value.int 181 0), (Value.ref 268), Value.none, (Value.ref 269), (Value.ref 270), (Value.ref 271), (Value.int 533 0), (Value.int 204 0), (Value.str (Str.ofString "/claim/cut.py") 534)]) #[])) ::
(nat_lit 273, (Obj.mk (Value.type "function") none (Data.func (FuncData.mk (Str.ofString "__init__") (Str.ofString "PropRules.__init__") (pA (stB 34 0)) (.stmts (pB (stB 34 0))) (pS (stB 34 0)) 3 [] Value.none Value.none Value.none (Value.str (Str.ofString "emacs.proprules") 514) none (Value.ref 272) Value.none 0)) #[])) ::
(nat_lit 274, (Obj.mk (Value.type "tuple") none (Data.seq #[] 0) #[])) ::
(nat_lit 276, (Obj.mk (Value.type "tuple") none (Data.seq #[(Value.str (Str.ofString "self") 539), (Value.str (Str.ofString "value") 540)] 0) #[])) ::
(nat_lit 277, (Obj.mk (Value.type "tuple") none (Data.seq #[] 0) #[])) ::
(nat_lit 279, (Obj.mk (Value.type "code") none (Data.fields #[(Value.str (Str.ofString "is_nil") 536), (Value.str (Str.ofString "PropRules.is_nil") 537), (Value.str (Str.ofString "/claim/cut.py") 538), (Value.int 215 0), (Value.int 2 0), (Value.int 0 0), (Value.int 0 0), (Value.int 3 0), (Value.ref 274), (Value.bool Bool.true), (Value.int 181 0), (Value.ref 275), Value.none, (Value.ref 276), (Value.ref 277), (Value.ref 278), (Value.int 541 0), (Value.int 215 0), (Value.str (Str.ofString "/claim/cut.py") 542)]) #[])) ::
(nat_lit 280, (Obj.mk (Value.type "function") none (Data.func (FuncData.mk (Str.ofString "is_nil") (Str.ofString "PropRules.is_nil") (pA (stB 34 1)) (.stmts (pB (stB 34 1))) (pS (stB 34 1)) 3 [] Value.none Value.none Value.none (Value.str (Str.ofString "emacs.proprules") 514) none (Value.ref 279) Value.none 0)) #[])) ::
(nat_lit 281, (Obj.mk (Value.type "tuple") none (Data.seq #[(Value.str (Str.ofString "category") 544), (Value.str (Str.ofString "defaults") 545), (Value.str (Str.ofString "evaporate") 546), (Value.str (Str.ofString "front_sticky") 547), (Value.str (Str.ofString "lisp") 548), (Value.str (Str.ofString "nil") 549), (Value.str (Str.ofString "priority") 550), (Value.str (Str.ofString "rear_nonsticky") 551), (Value.str (Str.ofString "true") 552)] 0) #[])) ::
(nat_lit 282, (Obj.mk (Value.type "dict") none (Data.dict #[(DictEntry.mk (PyData.keyHash P (Str.ofString "__module__")) (Value.str (Str.ofString "__module__") 523) (Value.str (Str.ofString "emacs.proprules") 514)), (DictEntry.mk (PyData.keyHash P (Str.ofString "__firstlineno__")) (Value.str (Str.ofString "__firstlineno__") 527) (Value.int 202 526)), (DictEntry.mk (PyData.keyHash P (Str.ofString "__init__")) (Value.str (Str.ofString "__init__") 535) (Value.ref 273)), (DictEntry.mk (PyData.keyHash P (Str.ofString "is_nil")) (Value.str (Str.ofString "is_nil") 543) (Value.ref 280)), (DictEntry.mk (PyData.keyHash P (Str.ofString "__static_attributes__")) (Value.str (Str.ofString "__static_attributes__") 553) (Value.ref 281)), (DictEntry.mk (PyData.keyHash P (Str.ofString "__dict__")) (Value.str (Str.ofString "__dict__") 555) (Value.ref 284)), (DictEntry.mk (PyData.keyHash P (Str.ofString "__weakref__")) (Value.str (Str.ofString "__weakref__") 557) (Value.ref 285)), (DictEntry.mk (PyData.keyHash P (Str.ofString "__doc__")) (Value.str (Str.ofString "__doc__") 558) Value.none)] 4) #[])) ::
(nat_lit 283, (Obj.mk (Value.type "type") none (Data.cls (ClassData.mk (Str.ofString "PropRules") [(Value.type "object")] [(Value.ref 283), (Value.type "object")] 282 (Str.ofString "PropRules") Bool.true [] [] Bool.false none Bool.false)) #[none, none, (some (Value.str (Str.ofString "PropRules") 516)), (some (Value.str (Str.ofString "PropRules") 524)), (some (Value.builtin "object.__new__")), (some (Value.bool Bool.true))])) ::
(nat_lit 284, (Obj.mk (Value.type "getset_descriptor") none (Data.fields #[(Value.str (Str.ofString "__dict__") 554), (Value.ref 283), (Value.builtin "function.__dict__"), (Value.builtin "function.__dict__#set")]) #[])) ::
(nat_lit 285, (Obj.mk (Value.type "getset_descriptor") none (Data.fields #[(Value.str (Str.ofString "__weakref__") 556), (Value.ref 283), (Value.builtin "ExceptionGroup.__weakref__"), Value.none]) #[])) ::
(nat_lit 288, (Obj.mk (Value.type "tuple") none (Data.seq #[] 0) #[])) ::
(nat_lit 290, (Obj.mk (Value.type "tuple") none (Data.seq #[(Value.str (Str.ofString "rules") 564), (Value.str (Str.ofString "plist") 565), (Value.str (Str.ofString "number") 566), (Value.str (Str.ofString "found") 567), (Value.str (Str.ofString "category") 568)] 0) #[])) ::
(nat_lit 291, (Obj.mk (Value.type "tuple") none (Data.seq #[] 0) #[])) ::
(nat_lit 293, (Obj.mk (Value.type "code") none (Data.fields #[(Value.str (Str.ofString "value_in") 561), (Value.str (Str.ofString "value_in") 562), (Value.str (Str.ofString "/claim/cut.py") 563), (Value.int 217 0), (Value.int 3 0), (Value.int 0 0), (Value.int 0 0), (Value.int 3 0), (Value.ref 288), (Value.bool Bool.true), (Value.int 181 0), (Value.ref 289), Value.none, (Value.ref 290), (Value.ref 291), (Value.ref 292), (Value.int 569 0), (Value.int 217 0), (Value.str (Str.ofString "/claim/cut.py") 570)]) #[])) ::
(nat_lit 294, (Obj.mk (Value.type "function") none (Data.func (FuncData.mk (Str.ofString "value_in") (Str.ofString "value_in") (pA (stA 35)) (.stmts (pB (stA 35))) (pS (stA 35)) 3 [] Value.none Value.none Value.none (Value.str (Str.ofString "emacs.proprules") 514) none (Value.ref 293) Value.none 0)) #[])) ::
(nat_lit 302, (Obj.mk (Value.type "tuple") none (Data.seq #[] 0) #[])) ::
(nat_lit 304, (Obj.mk (Value.type "tuple") none (Data.seq #[(Value.str (Str.ofString "self") 589), (Value.str (Str.ofString "length") 590)] 0) #[])) ::
(nat_lit 305, (Obj.mk (Value.type "tuple") none (Data.seq #[] 0) #[])) ::
(nat_lit 307, (Obj.mk (Value.type "code") none (Data.fields #[(Value.str (Str.ofString "__init__") 586), (Value.str (Str.ofString "TextProps.__init__") 587), (Value.str (Str.ofString "/claim/cut.py") 588), (Value.int 227 0), (Value.int 2 0), (Value.int 0 0), (Value.int 0 0), (Value.int 3 0), (Value.ref 302), (Value.bool Bool.true), (Value.int 181 0), (Value.ref 303), Value.none, (Value.ref 304), (Value.ref 305), (Value.ref 306), (Value.int 591 0), (Value.int 227 0), (Value.str (Str.ofString "/claim/cut.py") 592)]) #[])) ::
(nat_lit 308, (Obj.mk (Value.type "function") none (Data.func (FuncData.mk (Str.ofString "__init__") (Str.ofString "TextProps.__init__") (pA (stB 37 0)) (.stmts (pB (stB 37 0))) (pS (stB 37 0)) 3 [] Value.none Value.none Value.none (Value.str (Str.ofString "emacs.textprops") 572) none (Value.ref 307) Value.none 0)) #[])) ::
(nat_lit 309, (Obj.mk (Value.type "tuple") none (Data.seq #[] 0) #[])) ::
(nat_lit 311, (Obj.mk (Value.type "tuple") none (Data.seq #[(Value.str (Str.ofString "self") 597), (Value.str (Str.ofString "at") 598), (Value.str (Str.ofString "many") 599), (Value.str (Str.ofString "plist") 600)] 0) #[])) ::
(nat_lit 312, (Obj.mk (Value.type "tuple") none (Data.seq #[] 0) #[])) ::
(nat_lit 314, (Obj.mk (Value.type "code") none (Data.fields #[(Value.str (Str.ofString "inserted") 594), (Value.str (Str.ofString "TextProps.inserted") 595), (Value.str (Str.ofString "/claim/cut.py") 596), (Value.int 230 0), (Value.int 4 0), (Value.int 0 0), (Value.int 0 0), (Value.int 3 0), (Value.ref 309), (Value.bool Bool.true), (Value.int 181 0), (Value.ref 310), Value.none, (Value.ref 311), (Value.ref 312), (Value.ref 313), (Value.int 601 0), (Value.int 230 0), (Value.str (Str.ofString "/claim/cut.py") 602)]) #[])) ::
(nat_lit 315, (Obj.mk (Value.type "function") none (Data.func (FuncData.mk (Str.ofString "inserted") (Str.ofString "TextProps.inserted") (pA (stB 37 1)) (.stmts (pB (stB 37 1))) (pS (stB 37 1)) 3 [] Value.none Value.none Value.none (Value.str (Str.ofString "emacs.textprops") 572) none (Value.ref 314) Value.none 0)) #[])) ::
(nat_lit 316, (Obj.mk (Value.type "tuple") none (Data.seq #[] 0) #[])) ::
(nat_lit 318, (Obj.mk (Value.type "tuple") none (Data.seq #[(Value.str (Str.ofString "self") 607), (Value.str (Str.ofString "begin") 608), (Value.str (Str.ofString "end") 609)] 0) #[])) ::
(nat_lit 319, (Obj.mk (Value.type "tuple") none (Data.seq #[] 0) #[])) ::
(nat_lit 321, (Obj.mk (Value.type "code") none (Data.fields #[(Value.str (Str.ofString "deleted") 604), (Value.str (Str.ofString "TextProps.deleted") 605), (Value.str (Str.ofString "/claim/cut.py") 606), (Value.int 233 0), (Value.int 3 0), (Value.int 0 0), (Value.int 0 0), (Value.int 3 0), (Value.ref 316), (Value.bool Bool.true), (Value.int 181 0), (Value.ref 317), Value.none, (Value.ref 318), (Value.ref 319), (Value.ref 320), (Value.int 610 0), (Value.int 233 0), (Value.str (Str.ofString "/claim/cut.py") 611)]) #[])) ::
(nat_lit 322, (Obj.mk (Value.type "function") none (Data.func (FuncData.mk (Str.ofString "deleted") (Str.ofString "TextProps.deleted") (pA (stB 37 2)) (.stmts (pB (stB 37 2))) (pS (stB 37 2)) 3 [] Value.none Value.none Value.none (Value.str (Str.ofString "emacs.textprops") 572) none (Value.ref 321) Value.none 0)) #[])) ::
(nat_lit 323, (Obj.mk (Value.type "tuple") none (Data.seq #[] 0) #[])) ::
(nat_lit 325, (Obj.mk (Value.type "tuple") none (Data.seq #[(Value.str (Str.ofString "self") 616), (Value.str (Str.ofString "at") 617), (Value.str (Str.ofString "many") 618)] 0) #[])) ::
(nat_lit 326, (Obj.mk (Value.type "tuple") none (Data.seq #[] 0) #[])) ::
(nat_lit 328, (Obj.mk (Value.type "code") none (Data.fields #[(Value.str (Str.ofString "text_came") 613), (Value.str (Str.ofString "TextProps.text_came") 614), (Value.str (Str.ofString "/claim/cut.py") 615), (Value.int 236 0), (Value.int 3 0), (Value.int 0 0), (Value.int 0 0), (Value.int 3 0), (Value.ref 323), (Value.bool Bool.true), (Value.int 181 0), (Value.ref 324), Value.none, (Value.ref 325), (Value.ref 326), (Value.ref 327), (Value.int 619 0), (Value.int 236 0), (Value.str (Str.ofString "/claim/cut.py") 620)]) #[])) ::
(nat_lit 329, (Obj.mk (Value.type "function") none (Data.func (FuncData.mk (Str.ofString "text_came") (Str.ofString "TextProps.text_came") (pA (stB 37 3)) (.stmts (pB (stB 37 3))) (pS (stB 37 3)) 3 [] Value.none Value.none Value.none (Value.str (Str.ofString "emacs.textprops") 572) none (Value.ref 328) Value.none 0)) #[])) ::
(nat_lit 330, (Obj.mk (Value.type "tuple") none (Data.seq #[] 0) #[])) ::
(nat_lit 332, (Obj.mk (Value.type "tuple") none (Data.seq #[(Value.str (Str.ofString "self") 625), (Value.str (Str.ofString "at") 626), (Value.str (Str.ofString "end") 627)] 0) #[])) ::
(nat_lit 333, (Obj.mk (Value.type "tuple") none (Data.seq #[] 0) #[])) ::
(nat_lit 335, (Obj.mk (Value.type "code") none (Data.fields #[(Value.str (Str.ofString "text_gone") 622), (Value.str (Str.ofString "TextProps.text_gone") 623), (Value.str (Str.ofString "/claim/cut.py") 624), (Value.int 239 0), (Value.int 3 0), (Value.int 0 0), (Value.int 0 0), (Value.int 3 0), (Value.ref 330), (Value.bool Bool.true), (Value.int 181 0), (Value.ref 331), Value.none, (Value.ref 332), (Value.ref 333), (Value.ref 334), (Value.int 628 0), (Value.int 239 0), (Value.str (Str.ofString "/claim/cut.py") 629)]) #[])) ::
(nat_lit 336, (Obj.mk (Value.type "function") none (Data.func (FuncData.mk (Str.ofString "text_gone") (Str.ofString "TextProps.text_gone") (pA (stB 37 4)) (.stmts (pB (stB 37 4))) (pS (stB 37 4)) 3 [] Value.none Value.none Value.none (Value.str (Str.ofString "emacs.textprops") 572) none (Value.ref 335) Value.none 0)) #[])) ::
(nat_lit 337, (Obj.mk (Value.type "tuple") none (Data.seq #[] 0) #[])) ::
(nat_lit 339, (Obj.mk (Value.type "tuple") none (Data.seq #[(Value.str (Str.ofString "self") 634), (Value.str (Str.ofString "begin") 635), (Value.str (Str.ofString "end") 636)] 0) #[])) ::
(nat_lit 340, (Obj.mk (Value.type "tuple") none (Data.seq #[] 0) #[])) ::
(nat_lit 342, (Obj.mk (Value.type "code") none (Data.fields #[(Value.str (Str.ofString "rows_between") 631), (Value.str (Str.ofString "TextProps.rows_between") 632), (Value.str (Str.ofString "/claim/cut.py") 633), (Value.int 242 0), (Value.int 3 0), (Value.int 0 0), (Value.int 0 0), (Value.int 3 0), (Value.ref 337), (Value.bool Bool.true), (Value.int 181 0), (Value.ref 338), Value.none, (Value.ref 339), (Value.ref 340), (Value.ref 341), (Value.int 637 0), (Value.int 242 0), (Value.str (Str.ofString "/claim/cut.py") 638)]) #[])) ::
(nat_lit 343, (Obj.mk (Value.type "function") none (Data.func (FuncData.mk (Str.ofString "rows_between") (Str.ofString "TextProps.rows_between") (pA (stB 37 5)) (.stmts (pB (stB 37 5))) (pS (stB 37 5)) 3 [] Value.none Value.none Value.none (Value.str (Str.ofString "emacs.textprops") 572) none (Value.ref 342) Value.none 0)) #[])) ::
(nat_lit 344, (Obj.mk (Value.type "tuple") none (Data.seq #[] 0) #[])) ::
(nat_lit 346, (Obj.mk (Value.type "tuple") none (Data.seq #[(Value.str (Str.ofString "self") 643), (Value.str (Str.ofString "rows") 644)] 0) #[])) ::
(nat_lit 347, (Obj.mk (Value.type "tuple") none (Data.seq #[] 0) #[])) ::
(nat_lit 349, (Obj.mk (Value.type "code") none (Data.fields #[(Value.str (Str.ofString "put_rows") 640), (Value.str (Str.ofString "TextProps.put_rows") 641), (Value.str (Str.ofString "/claim/cut.py") 642), (Value.int 245 0), (Value.int 2 0), (Value.int 0 0), (Value.int 0 0), (Value.int 3 0), (Value.ref 344), (Value.bool Bool.true), (Value.int 181 0), (Value.ref 345), Value.none, (Value.ref 346), (Value.ref 347), (Value.ref 348), (Value.int 645 0), (Value.int 245 0), (Value.str (Str.ofString "/claim/cut.py") 646)]) #[])) ::
(nat_lit 350, (Obj.mk (Value.type "function") none (Data.func (FuncData.mk (Str.ofString "put_rows") (Str.ofString "TextProps.put_rows") (pA (stB 37 6)) (.stmts (pB (stB 37 6))) (pS (stB 37 6)) 3 [] Value.none Value.none Value.none (Value.str (Str.ofString "emacs.textprops") 572) none (Value.ref 349) Value.none 0)) #[])) ::
(nat_lit 351, (Obj.mk (Value.type "tuple") none (Data.seq #[(Value.str (Str.ofString "tree") 648)] 0) #[])) ::
(nat_lit 352, (Obj.mk (Value.type "dict") none (Data.dict #[(DictEntry.mk (PyData.keyHash P (Str.ofString "__module__")) (Value.str (Str.ofString "__module__") 581) (Value.str (Str.ofString "emacs.textprops") 572)), (DictEntry.mk (PyData.keyHash P (Str.ofString "__firstlineno__")) (Value.str (Str.ofString "__firstlineno__") 585) (Value.int 225 584)), (DictEntry.mk (PyData.keyHash P (Str.ofString "__init__")) (Value.str (Str.ofString "__init__") 593) (Value.ref 308)), (DictEntry.mk (PyData.keyHash P (Str.ofString "inserted")) (Value.str (Str.ofString "inserted") 603) (Value.ref 315)), (DictEntry.mk (PyData.keyHash P (Str.ofString "deleted")) (Value.str (Str.ofString "deleted") 612) (Value.ref 322)), (DictEntry.mk (PyData.keyHash P (Str.ofString "text_came")) (Value.str (Str.ofString "text_came") 621) (Value.ref 329)), (DictEntry.mk (PyData.keyHash P (Str.ofString "text_gone")) (Value.str (Str.ofString "text_gone") 630) (Value.ref 336)), (DictEntry.mk (PyData.keyHash P (Str.ofString "rows_between")) (Value.str (Str.ofString "rows_between") 639) (Value.ref 343)), (DictEntry.mk (PyData.keyHash P (Str.ofString "put_rows")) (Value.str (Str.ofString "put_rows") 647) (Value.ref 350)), (DictEntry.mk (PyData.keyHash P (Str.ofString "__static_attributes__")) (Value.str (Str.ofString "__static_attributes__") 649) (Value.ref 351)), (DictEntry.mk (PyData.keyHash P (Str.ofString "__dict__")) (Value.str (Str.ofString "__dict__") 651) (Value.ref 354)), (DictEntry.mk (PyData.keyHash P (Str.ofString "__weakref__")) (Value.str (Str.ofString "__weakref__") 653) (Value.ref 355)), (DictEntry.mk (PyData.keyHash P (Str.ofString "__doc__")) (Value.str (Str.ofString "__doc__") 654) Value.none)] 4) #[])) ::
(nat_lit 353, (Obj.mk (Value.type "type") none (Data.cls (ClassData.mk (Str.ofString "TextProps") [(Value.type "object")] [(Value.ref 353), (Value.type "object")] 352 (Str.ofString "TextProps") Bool.true [] [] Bool.false none Bool.false)) #[none, none, (some (Value.str (Str.ofString "TextProps") 574)), (some (Value.str (Str.ofString "TextProps") 582)), (some (Value.builtin "object.__new__")), (some (Value.bool Bool.true))])) ::
(nat_lit 354, (Obj.mk (Value.type "getset_descriptor") none (Data.fields #[(Value.str (Str.ofString "__dict__") 650), (Value.ref 353), (Value.builtin "function.__dict__"), (Value.builtin "function.__dict__#set")]) #[])) ::
(nat_lit 355, (Obj.mk (Value.type "getset_descriptor") none (Data.fields #[(Value.str (Str.ofString "__weakref__") 652), (Value.ref 353), (Value.builtin "ExceptionGroup.__weakref__"), Value.none]) #[])) ::
(nat_lit 358, (Obj.mk (Value.type "tuple") none (Data.seq #[] 0) #[])) ::
(nat_lit 360, (Obj.mk (Value.type "tuple") none (Data.seq #[(Value.str (Str.ofString "rows") 660), (Value.str (Str.ofString "found") 661), (Value.str (Str.ofString "at") 662), (Value.str (Str.ofString "many") 663), (Value.str (Str.ofString "plist") 664)] 0) #[])) ::
(nat_lit 361, (Obj.mk (Value.type "tuple") none (Data.seq #[] 0) #[])) ::
(nat_lit 363, (Obj.mk (Value.type "code") none (Data.fields #[(Value.str (Str.ofString "props_of_rows") 657), (Value.str (Str.ofString "props_of_rows") 658), (Value.str (Str.ofString "/claim/cut.py") 659), (Value.int 247 0), (Value.int 1 0), (Value.int 0 0), (Value.int 0 0), (Value.int 3 0), (Value.ref 358), (Value.bool Bool.true), (Value.int 181 0), (Value.ref 359), Value.none, (Value.ref 360), (Value.ref 361), (Value.ref 362), (Value.int 665 0), (Value.int 247 0), (Value.str (Str.ofString "/claim/cut.py") 666)]) #[])) ::
(nat_lit 364, (Obj.mk (Value.type "function") none (Data.func (FuncData.mk (Str.ofString "props_of_rows") (Str.ofString "props_of_rows") (pA (stA 38)) (.stmts (pB (stA 38))) (pS (stA 38)) 3 [] Value.none Value.none Value.none (Value.str (Str.ofString "emacs.textprops") 572) none (Value.ref 363) Value.none 0)) #[])) ::
(nat_lit 365, (Obj.mk (Value.type "tuple") none (Data.seq #[] 0) #[])) ::
(nat_lit 367, (Obj.mk (Value.type "tuple") none (Data.seq #[(Value.str (Str.ofString "props") 671), (Value.str (Str.ofString "at") 672), (Value.str (Str.ofString "node") 673), (Value.str (Str.ofString "begin") 674), (Value.str (Str.ofString "ahead") 675), (Value.str (Str.ofString "many") 676)] 0) #[])) ::
(nat_lit 368, (Obj.mk (Value.type "tuple") none (Data.seq #[] 0) #[])) ::
(nat_lit 370, (Obj.mk (Value.type "code") none (Data.fields #[(Value.str (Str.ofString "join_at") 668), (Value.str (Str.ofString "join_at") 669), (Value.str (Str.ofString "/claim/cut.py") 670), (Value.int 255 0), (Value.int 2 0), (Value.int 0 0), (Value.int 0 0), (Value.int 3 0), (Value.ref 365), (Value.bool Bool.true), (Value.int 181 0), (Value.ref 366), Value.none, (Value.ref 367), (Value.ref 368), (Value.ref 369), (Value.int 677 0), (Value.int 255 0), (Value.str (Str.ofString "/claim/cut.py") 678)]) #[])) ::
(nat_lit 371, (Obj.mk (Value.type "function") none (Data.func (FuncData.mk (Str.ofString "join_at") (Str.ofString "join_at") (pA (stA 39)) (.stmts (pB (stA 39))) (pS (stA 39)) 3 [] Value.none Value.none Value.none (Value.str (Str.ofString "emacs.textprops") 572) none (Value.ref 370) Value.none 0)) #[])) ::
(nat_lit 372, (Obj.mk (Value.type "tuple") none (Data.seq #[] 0) #[])) ::
(nat_lit 374, (Obj.mk (Value.type "tuple") none (Data.seq #[(Value.str (Str.ofString "props") 683), (Value.str (Str.ofString "begin") 684), (Value.str (Str.ofString "end") 685), (Value.str (Str.ofString "found") 686), (Value.str (Str.ofString "node") 687), (Value.str (Str.ofString "first") 688), (Value.str (Str.ofString "last") 689)] 0) #[])) ::
(nat_lit 375, (Obj.mk (Value.type "tuple") none (Data.seq #[] 0) #[])) ::
(nat_lit 377, (Obj.mk (Value.type "code") none (Data.fields #[(Value.str (Str.ofString "rows_between") 680), (Value.str (Str.ofString "rows_between") 681), (Value.str (Str.ofString "/claim/cut.py") 682), (Value.int 267 0), (Value.int 3 0), (Value.int 0 0), (Value.int 0 0), (Value.int 3 0), (Value.ref 372), (Value.bool Bool.true), (Value.int 181 0), (Value.ref 373), Value.none, (Value.ref 374), (Value.ref 375), (Value.ref 376), (Value.int 690 0), (Value.int 267 0), (Value.str (Str.ofString "/claim/cut.py") 691)]) #[])) ::
(nat_lit 378, (Obj.mk (Value.type "function") none (Data.func (FuncData.mk (Str.ofString "rows_between") (Str.ofString "rows_between") (pA (stA 40)) (.stmts (pB (stA 40))) (pS (stA 40)) 3 [] Value.none Value.none Value.none (Value.str (Str.ofString "emacs.textprops") 572) none (Value.ref 377) Value.none 0)) #[])) ::
(nat_lit 379, (Obj.mk (Value.type "tuple") none (Data.seq #[] 0) #[])) ::
(nat_lit 381, (Obj.mk (Value.type "tuple") none (Data.seq #[(Value.str (Str.ofString "props") 698), (Value.str (Str.ofString "at") 699), (Value.str (Str.ofString "limit") 700), (Value.str (Str.ofString "node") 701), (Value.str (Str.ofString "begin") 702), (Value.str (Str.ofString "plist") 703)] 0) #[])) ::
(nat_lit 382, (Obj.mk (Value.type "tuple") none (Data.seq #[] 0) #[])) ::
(nat_lit 384, (Obj.mk (Value.type "code") none (Data.fields #[(Value.str (Str.ofString "next_change") 695), (Value.str (Str.ofString "next_change") 696), (Value.str (Str.ofString "/claim/cut.py") 697), (Value.int 279 0), (Value.int 3 0), (Value.int 0 0), (Value.int 0 0), (Value.int 3 0), (Value.ref 379), (Value.bool Bool.true), (Value.int 181 0), (Value.ref 380), Value.none, (Value.ref 381), (Value.ref 382), (Value.ref 383), (Value.int 704 0), (Value.int 279 0), (Value.str (Str.ofString "/claim/cut.py") 705)]) #[])) ::
(nat_lit 385, (Obj.mk (Value.type "function") none (Data.func (FuncData.mk (Str.ofString "next_change") (Str.ofString "next_change") (pA (stA 42)) (.stmts (pB (stA 42))) (pS (stA 42)) 3 [] Value.none Value.none Value.none (Value.str (Str.ofString "emacs.propchanges") 693) none (Value.ref 384) Value.none 0)) #[])) ::
(nat_lit 386, (Obj.mk (Value.type "tuple") none (Data.seq #[] 0) #[])) ::
(nat_lit 388, (Obj.mk (Value.type "tuple") none (Data.seq #[(Value.str (Str.ofString "props") 710), (Value.str (Str.ofString "rules") 711), (Value.str (Str.ofString "at") 712), (Value.str (Str.ofString "number") 713), (Value.str (Str.ofString "limit") 714), (Value.str (Str.ofString "node") 715), (Value.str (Str.ofString "begin") 716), (Value.str (Str.ofString "value") 717)] 0) #[])) ::
(nat_lit 389, (Obj.mk (Value.type "tuple") none (Data.seq #[] 0) #[])) ::
(nat_lit 391, (Obj.mk (Value.type "code") none (Data.fields #[(Value.str (Str.ofString "next_single") 707), (Value.str (Str.ofString "next_single") 708), (Value.str (Str.ofString "/claim/cut.py") 709), (Value.int 288 0), (Value.int 5 0), (Value.int 0 0), (Value.int 0 0), (Value.int 3 0), (Value.ref 386), (Value.bool Bool.true), (Value.int 181 0), (Value.ref 387), Value.none, (Value.ref 388), (Value.ref 389), (Value.ref 390), (Value.int 718 0), (Value.int 288 0), (Value.str (Str.ofString "/claim/cut.py") 719)]) #[])) ::
(nat_lit 392, (Obj.mk (Value.type "function") none (Data.func (FuncData.mk (Str.ofString "next_single") (Str.ofString "next_single") (pA (stA 43)) (.stmts (pB (stA 43))) (pS (stA 43)) 3 [] Value.none Value.none Value.none (Value.str (Str.ofString "emacs.propchanges") 693) none (Value.ref 391) Value.none 0)) #[])) ::
(nat_lit 393, (Obj.mk (Value.type "tuple") none (Data.seq #[] 0) #[])) ::
(nat_lit 395, (Obj.mk (Value.type "tuple") none (Data.seq #[(Value.str (Str.ofString "props") 724), (Value.str (Str.ofString "at") 725), (Value.str (Str.ofString "limit") 726), (Value.str (Str.ofString "node") 727), (Value.str (Str.ofString "begin") 728), (Value.str (Str.ofString "plist") 729)] 0) #[])) ::
(nat_lit 396, (Obj.mk (Value.type "tuple") none (Data.seq #[] 0) #[])) ::
(nat_lit 398, (Obj.mk (Value.type "code") none (Data.fields #[(Value.str (Str.ofString "previous_change") 721), (Value.str (Str.ofString "previous_change") 722), (Value.str (Str.ofString "/claim/cut.py") 723), (Value.int 297 0), (Value.int 3 0), (Value.int 0 0), (Value.int 0 0), (Value.int 3 0), (Value.ref 393), (Value.bool Bool.true), (Value.int 181 0), (Value.ref 394), Value.none, (Value.ref 395), (Value.ref 396), (Value.ref 397), (Value.int 730 0), (Value.int 297 0), (Value.str (Str.ofString "/claim/cut.py") 731)]) #[])) ::
(nat_lit 399, (Obj.mk (Value.type "function") none (Data.func (FuncData.mk (Str.ofString "previous_change") (Str.ofString "previous_change") (pA (stA 44)) (.stmts (pB (stA 44))) (pS (stA 44)) 3 [] Value.none Value.none Value.none (Value.str (Str.ofString "emacs.propchanges") 693) none (Value.ref 398) Value.none 0)) #[])) ::
(nat_lit 400, (Obj.mk (Value.type "tuple") none (Data.seq #[] 0) #[])) ::
(nat_lit 402, (Obj.mk (Value.type "tuple") none (Data.seq #[(Value.str (Str.ofString "props") 736), (Value.str (Str.ofString "rules") 737), (Value.str (Str.ofString "at") 738), (Value.str (Str.ofString "number") 739), (Value.str (Str.ofString "limit") 740), (Value.str (Str.ofString "node") 741), (Value.str (Str.ofString "begin") 742), (Value.str (Str.ofString "value") 743)] 0) #[])) ::
(nat_lit 403, (Obj.mk (Value.type "tuple") none (Data.seq #[] 0) #[])) ::
(nat_lit 405, (Obj.mk (Value.type "code") none (Data.fields #[(Value.str (Str.ofString "previous_single") 733), (Value.str (Str.ofString "previous_single") 734), (Value.str (Str.ofString "/claim/cut.py") 735), (Value.int 307 0), (Value.int 5 0), (Value.int 0 0), (Value.int 0 0), (Value.int 3 0), (Value.ref 400), (Value.bool Bool.true), (Value.int 181 0), (Value.ref 401), Value.none, (Value.ref 402), (Value.ref 403), (Value.ref 404), (Value.int 744 0), (Value.int 307 0), (Value.str (Str.ofString "/claim/cut.py") 745)]) #[])) ::
(nat_lit 406, (Obj.mk (Value.type "function") none (Data.func (FuncData.mk (Str.ofString "previous_single") (Str.ofString "previous_single") (pA (stA 45)) (.stmts (pB (stA 45))) (pS (stA 45)) 3 [] Value.none Value.none Value.none (Value.str (Str.ofString "emacs.propchanges") 693) none (Value.ref 405) Value.none 0)) #[])) ::
(nat_lit 407, (Obj.mk (Value.type "tuple") none (Data.seq #[] 0) #[])) ::
(nat_lit 409, (Obj.mk (Value.type "tuple") none (Data.seq #[(Value.str (Str.ofString "props") 750), (Value.str (Str.ofString "rules") 751), (Value.str (Str.ofString "begin") 752), (Value.str (Str.ofString "end") 753), (Value.str (Str.ofString "number") 754), (Value.str (Str.ofString "value") 755), (Value.str (Str.ofString "first") 756), (Value.str (Str.ofString "last") 757), (Value.str (Str.ofString "plist") 758)] 0) #[])) ::
(nat_lit 410, (Obj.mk (Value.type "tuple") none (Data.seq #[] 0) #[])) ::
(nat_lit 412, (Obj.mk (Value.type "code") none (Data.fields #[(Value.str (Str.ofString "first_with") 747), (Value.str (Str.ofString "first_with") 748), (Value.str (Str.ofString "/claim/cut.py") 749), (Value.int 317 0), (Value.int 6 0), (Value.int 0 0), (Value.int 0 0), (Value.int 3 0), (Value.ref 407), (Value.bool Bool.true), (Value.int 181 0), (Value.ref 408), Value.none, (Value.ref 409), (Value.ref 410), (Value.ref 411), (Value.int 759 0), (Value.int 317 0), (Value.str (Str.ofString "/claim/cut.py") 760)]) #[])) ::
(nat_lit 413, (Obj.mk (Value.type "function") none (Data.func (FuncData.mk (Str.ofString "first_with") (Str.ofString "first_with") (pA (stA 46)) (.stmts (pB (stA 46))) (pS (stA 46)) 3 [] Value.none Value.none Value.none (Value.str (Str.ofString "emacs.propchanges") 693) none (Value.ref 412) Value.none 0)) #[])) ::
(nat_lit 414, (Obj.mk (Value.type "tuple") none (Data.seq #[] 0) #[])) ::
(nat_lit 416, (Obj.mk (Value.type "tuple") none (Data.seq #[(Value.str (Str.ofString "props") 765), (Value.str (Str.ofString "rules") 766), (Value.str (Str.ofString "begin") 767), (Value.str (Str.ofString "end") 768), (Value.str (Str.ofString "number") 769), (Value.str (Str.ofString "value") 770), (Value.str (Str.ofString "first") 771), (Value.str (Str.ofString "last") 772), (Value.str (Str.ofString "plist") 773)] 0) #[])) ::
(nat_lit 417, (Obj.mk (Value.type "tuple") none (Data.seq #[] 0) #[])) ::
(nat_lit 419, (Obj.mk (Value.type "code") none (Data.fields #[(Value.str (Str.ofString "first_without") 762), (Value.str (Str.ofString "first_without") 763), (Value.str (Str.ofString "/claim/cut.py") 764), (Value.int 322 0), (Value.int 6 0), (Value.int 0 0), (Value.int 0 0), (Value.int 3 0), (Value.ref 414), (Value.bool Bool.true), (Value.int 181 0), (Value.ref 415), Value.none, (Value.ref 416), (Value.ref 417), (Value.ref 418), (Value.int 774 0), (Value.int 322 0), (Value.str (Str.ofString "/claim/cut.py") 775)]) #[])) ::
(nat_lit 420, (Obj.mk (Value.type "function") none (Data.func (FuncData.mk (Str.ofString "first_without") (Str.ofString "first_without") (pA (stA 47)) (.stmts (pB (stA 47))) (pS (stA 47)) 3 [] Value.none Value.none Value.none (Value.str (Str.ofString "emacs.propchanges") 693) none (Value.ref 419) Value.none 0)) #[])) ::
(nat_lit 421, (Obj.mk (Value.type "tuple") none (Data.seq #[(Value.str (Str.ofString "category") 779), (Value.str (Str.ofString "front-sticky") 780), (Value.str (Str.ofString "rear-nonsticky") 781), (Value.str (Str.ofString "evaporate") 782), (Value.str (Str.ofString "priority") 783)] 0) #[])) ::
(nat_lit 429, (Obj.mk (Value.type "tuple") none (Data.seq #[] 0) #[])) ::
(nat_lit 431, (Obj.mk (Value.type "tuple") none (Data.seq #[(Value.str (Str.ofString "self") 800), (Value.str (Str.ofString "first") 801)] 0) #[])) ::
(nat_lit 432, (Obj.mk (Value.type "tuple") none (Data.seq #[] 0) #[])) ::
(nat_lit 434, (Obj.mk (Value.type "code") none (Data.fields #[(Value.str (Str.ofString "__init__") 797), (Value.str (Str.ofString "PlainLisp.__init__") 798), (Value.str (Str.ofString "/claim/cut.py") 799), (Value.int 331 0), (Value.int 2 0), (Value.int 0 0), (Value.int 0 0), (Value.int 3 0), (Value.ref 429), (Value.bool Bool.true), (Value.int 181 0), (Value.ref 430), Value.none, (Value.ref 431), (Value.ref 432), (Value.ref 433), (Value.int 802 0), (Value.int 331 0), (Value.str (Str.ofString "/claim/cut.py") 803)]) #[])) ::
(nat_lit 435, (Obj.mk (Value.type "function") none (Data.func (FuncData.mk (Str.ofString "__init__") (Str.ofString "PlainLisp.__init__") (pA (stB 50 0)) (.stmts (pB (stB 50 0))) (pS (stB 50 0)) 3 [] Value.none Value.none Value.none (Value.str (Str.ofString "emacs.plainlisp") 777) none (Value.ref 434) Value.none 0)) #[])) ::
(nat_lit 436, (Obj.mk (Value.type "tuple") none (Data.seq #[] 0) #[])) ::
(nat_lit 438, (Obj.mk (Value.type "tuple") none (Data.seq #[(Value.str (Str.ofString "self") 808), (Value.str (Str.ofString "name") 809)] 0) #[])) ::
(nat_lit 439, (Obj.mk (Value.type "tuple") none (Data.seq #[] 0) #[])) ::
(nat_lit 441, (Obj.mk (Value.type "code") none (Data.fields #[(Value.str (Str.ofString "number") 805), (Value.str (Str.ofString "PlainLisp.number") 806), (Value.str (Str.ofString "/claim/cut.py") 807), (Value.int 337 0), (Value.int 2 0), (Value.int 0 0), (Value.int 0 0), (Value.int 3 0), (Value.ref 436), (Value.bool Bool.true), (Value.int 181 0), (Value.ref 437), Value.none, (Value.ref 438), (Value.ref 439), (Value.ref 440), (Value.int 810 0), (Value.int 337 0), (Value.str (Str.ofString "/claim/cut.py") 811)]) #[])) ::
(nat_lit 442, (Obj.mk (Value.type "function") none (Data.func (FuncData.mk (Str.ofString "number") (Str.ofString "PlainLisp.number") (pA (stB 50 1)) (.stmts (pB (stB 50 1))) (pS (stB 50 1)) 3 [] Value.none Value.none Value.none (Value.str (Str.ofString "emacs.plainlisp") 777) none (Value.ref 441) Value.none 0)) #[])) ::
(nat_lit 443, (Obj.mk (Value.type "tuple") none (Data.seq #[] 0) #[])) ::
(nat_lit 445, (Obj.mk (Value.type "tuple") none (Data.seq #[(Value.str (Str.ofString "self") 816), (Value.str (Str.ofString "number") 817)] 0) #[])) ::
(nat_lit 446, (Obj.mk (Value.type "tuple") none (Data.seq #[] 0) #[])) ::
(nat_lit 448, (Obj.mk (Value.type "code") none (Data.fields #[(Value.str (Str.ofString "symbol") 813), (Value.str (Str.ofString "PlainLisp.symbol") 814), (Value.str (Str.ofString "/claim/cut.py") 815), (Value.int 340 0), (Value.int 2 0), (Value.int 0 0), (Value.int 0 0), (Value.int 3 0), (Value.ref 443), (Value.bool Bool.true), (Value.int 181 0), (Value.ref 444), Value.none, (Value.ref 445), (Value.ref 446), (Value.ref 447), (Value.int 818 0), (Value.int 340 0), (Value.str (Str.ofString "/claim/cut.py") 819)]) #[])) ::
(nat_lit 449, (Obj.mk (Value.type "function") none (Data.func (FuncData.mk (Str.ofString "symbol") (Str.ofString "PlainLisp.symbol") (pA (stB 50 2)) (.stmts (pB (stB 50 2))) (pS (stB 50 2)) 3 [] Value.none Value.none Value.none (Value.str (Str.ofString "emacs.plainlisp") 777) none (Value.ref 448) Value.none 0)) #[])) ::
(nat_lit 450, (Obj.mk (Value.type "tuple") none (Data.seq #[] 0) #[])) ::
(nat_lit 452, (Obj.mk (Value.type "tuple") none (Data.seq #[(Value.str (Str.ofString "self") 824), (Value.str (Str.ofString "value") 825)] 0) #[])) ::
(nat_lit 453, (Obj.mk (Value.type "tuple") none (Data.seq #[] 0) #[])) ::
(nat_lit 455, (Obj.mk (Value.type "code") none (Data.fields #[(Value.str (Str.ofString "number_of") 821), (Value.str (Str.ofString "PlainLisp.number_of") 822), (Value.str (Str.ofString "/claim/cut.py") 823), (Value.int 343 0), (Value.int 2 0), (Value.int 0 0), (Value.int 0 0), (Value.int 3 0), (Value.ref 450), (Value.bool Bool.true), (Value.int 181 0), (Value.ref 451), Value.none, (Value.ref 452), (Value.ref 453), (Value.ref 454), (Value.int 826 0), (Value.int 343 0), (Value.str (Str.ofString "/claim/cut.py") 827)]) #[])) ::
(nat_lit 456, (Obj.mk (Value.type "function") none (Data.func (FuncData.mk (Str.ofString "number_of") (Str.ofString "PlainLisp.number_of") (pA (stB 50 3)) (.stmts (pB (stB 50 3))) (pS (stB 50 3)) 3 [] Value.none Value.none Value.none (Value.str (Str.ofString "emacs.plainlisp") 777) none (Value.ref 455) Value.none 0)) #[])) ::
(nat_lit 457, (Obj.mk (Value.type "tuple") none (Data.seq #[] 0) #[])) ::
(nat_lit 459, (Obj.mk (Value.type "tuple") none (Data.seq #[(Value.str (Str.ofString "self") 832), (Value.str (Str.ofString "values") 833)] 0) #[])) ::
(nat_lit 460, (Obj.mk (Value.type "tuple") none (Data.seq #[] 0) #[])) ::
(nat_lit 462, (Obj.mk (Value.type "code") none (Data.fields #[(Value.str (Str.ofString "list_of") 829), (Value.str (Str.ofString "PlainLisp.list_of") 830), (Value.str (Str.ofString "/claim/cut.py") 831), (Value.int 346 0), (Value.int 2 0), (Value.int 0 0), (Value.int 0 0), (Value.int 3 0), (Value.ref 457), (Value.bool Bool.true), (Value.int 181 0), (Value.ref 458), Value.none, (Value.ref 459), (Value.ref 460), (Value.ref 461), (Value.int 834 0), (Value.int 346 0), (Value.str (Str.ofString "/claim/cut.py") 835)]) #[])) ::
(nat_lit 463, (Obj.mk (Value.type "function") none (Data.func (FuncData.mk (Str.ofString "list_of") (Str.ofString "PlainLisp.list_of") (pA (stB 50 4)) (.stmts (pB (stB 50 4))) (pS (stB 50 4)) 3 [] Value.none Value.none Value.none (Value.str (Str.ofString "emacs.plainlisp") 777) none (Value.ref 462) Value.none 0)) #[])) ::
(nat_lit 464, (Obj.mk (Value.type "tuple") none (Data.seq #[] 0) #[])) ::
(nat_lit 466, (Obj.mk (Value.type "tuple") none (Data.seq #[(Value.str (Str.ofString "self") 840), (Value.str (Str.ofString "value") 841)] 0) #[])) ::
(nat_lit 467, (Obj.mk (Value.type "tuple") none (Data.seq #[] 0) #[])) ::
(nat_lit 469, (Obj.mk (Value.type "code") none (Data.fields #[(Value.str (Str.ofString "items") 837), (Value.str (Str.ofString "PlainLisp.items") 838), (Value.str (Str.ofString "/claim/cut.py") 839), (Value.int 349 0), (Value.int 2 0), (Value.int 0 0), (Value.int 0 0), (Value.int 3 0), (Value.ref 464), (Value.bool Bool.true), (Value.int 181 0), (Value.ref 465), Value.none, (Value.ref 466), (Value.ref 467), (Value.ref 468), (Value.int 842 0), (Value.int 349 0), (Value.str (Str.ofString "/claim/cut.py") 843)]) #[])) ::
(nat_lit 470, (Obj.mk (Value.type "function") none (Data.func (FuncData.mk (Str.ofString "items") (Str.ofString "PlainLisp.items") (pA (stB 50 5)) (.stmts (pB (stB 50 5))) (pS (stB 50 5)) 3 [] Value.none Value.none Value.none (Value.str (Str.ofString "emacs.plainlisp") 777) none (Value.ref 469) Value.none 0)) #[])) ::
(nat_lit 471, (Obj.mk (Value.type "tuple") none (Data.seq #[] 0) #[])) ::
(nat_lit 473, (Obj.mk (Value.type "tuple") none (Data.seq #[(Value.str (Str.ofString "self") 848), (Value.str (Str.ofString "value") 849)] 0) #[])) ::
(nat_lit 474, (Obj.mk (Value.type "tuple") none (Data.seq #[] 0) #[])) ::
(nat_lit 476, (Obj.mk (Value.type "code") none (Data.fields #[(Value.str (Str.ofString "pair") 845), (Value.str (Str.ofString "PlainLisp.pair") 846), (Value.str (Str.ofString "/claim/cut.py") 847), (Value.int 352 0), (Value.int 2 0), (Value.int 0 0), (Value.int 0 0), (Value.int 3 0), (Value.ref 471), (Value.bool Bool.true), (Value.int 181 0), (Value.ref 472), Value.none, (Value.ref 473), (Value.ref 474), (Value.ref 475), (Value.int 850 0), (Value.int 352 0), (Value.str (Str.ofString "/claim/cut.py") 851)]) #[])) ::
(nat_lit 477, (Obj.mk (Value.type "function") none (Data.func (FuncData.mk (Str.ofString "pair") (Str.ofString "PlainLisp.pair") (pA (stB 50 6)) (.stmts (pB (stB 50 6))) (pS (stB 50 6)) 3 [] Value.none Value.none Value.none (Value.str (Str.ofString "emacs.plainlisp") 777) none (Value.ref 476) Value.none 0)) #[])) ::
(nat_lit 478, (Obj.mk (Value.type "tuple") none (Data.seq #[] 0) #[])) ::
(nat_lit 480, (Obj.mk (Value.type "tuple") none (Data.seq #[(Value.str (Str.ofString "self") 856), (Value.str (Str.ofString "value") 857), (Value.str (Str.ofString "number") 858), (Value.str (Str.ofString "own") 859), (Value.str (Str.ofString "held") 860)] 0) #[])) ::
(nat_lit 481, (Obj.mk (Value.type "tuple") none (Data.seq #[] 0) #[])) ::
(nat_lit 483, (Obj.mk (Value.type "code") none (Data.fields #[(Value.str (Str.ofString "symbol_property") 853), (Value.str (Str.ofString "PlainLisp.symbol_property") 854), (Value.str (Str.ofString "/claim/cut.py") 855), (Value.int 355 0), (Value.int 3 0), (Value.int 0 0), (Value.int 0 0), (Value.int 3 0), (Value.ref 478), (Value.bool Bool.true), (Value.int 181 0), (Value.ref 479), Value.none, (Value.ref 480), (Value.ref 481), (Value.ref 482), (Value.int 861 0), (Value.int 355 0), (Value.str (Str.ofString "/claim/cut.py") 862)]) #[])) ::
(nat_lit 484, (Obj.mk (Value.type "function") none (Data.func (FuncData.mk (Str.ofString "symbol_property") (Str.ofString "PlainLisp.symbol_property") (pA (stB 50 7)) (.stmts (pB (stB 50 7))) (pS (stB 50 7)) 3 [] Value.none Value.none Value.none (Value.str (Str.ofString "emacs.plainlisp") 777) none (Value.ref 483) Value.none 0)) #[])) ::
(nat_lit 485, (Obj.mk (Value.type "tuple") none (Data.seq #[(Value.str (Str.ofString "first") 864), (Value.str (Str.ofString "nil") 865), (Value.str (Str.ofString "plists") 866), (Value.str (Str.ofString "true") 867)] 0) #[])) ::
(nat_lit 486, (Obj.mk (Value.type "dict") none (Data.dict #[(DictEntry.mk (PyData.keyHash P (Str.ofString "__module__")) (Value.str (Str.ofString "__module__") 792) (Value.str (Str.ofString "emacs.plainlisp") 777)), (DictEntry.mk (PyData.keyHash P (Str.ofString "__firstlineno__")) (Value.str (Str.ofString "__firstlineno__") 796) (Value.int 329 795)), (DictEntry.mk (PyData.keyHash P (Str.ofString "__init__")) (Value.str (Str.ofString "__init__") 804) (Value.ref 435)), (DictEntry.mk (PyData.keyHash P (Str.ofString "number")) (Value.str (Str.ofString "number") 812) (Value.ref 442)), (DictEntry.mk (PyData.keyHash P (Str.ofString "symbol")) (Value.str (Str.ofString "symbol") 820) (Value.ref 449)), (DictEntry.mk (PyData.keyHash P (Str.ofString "number_of")) (Value.str (Str.ofString "number_of") 828) (Value.ref 456)), (DictEntry.mk (PyData.keyHash P (Str.ofString "list_of")) (Value.str (Str.ofString "list_of") 836) (Value.ref 463)), (DictEntry.mk (PyData.keyHash P (Str.ofString "items")) (Value.str (Str.ofString "items") 844) (Value.ref 470)), (DictEntry.mk (PyData.keyHash P (Str.ofString "pair")) (Value.str (Str.ofString "pair") 852) (Value.ref 477)), (DictEntry.mk (PyData.keyHash P (Str.ofString "symbol_property")) (Value.str (Str.ofString "symbol_property") 863) (Value.ref 484)), (DictEntry.mk (PyData.keyHash P (Str.ofString "__static_attributes__")) (Value.str (Str.ofString "__static_attributes__") 868) (Value.ref 485)), (DictEntry.mk (PyData.keyHash P (Str.ofString "__dict__")) (Value.str (Str.ofString "__dict__") 870) (Value.ref 488)), (DictEntry.mk (PyData.keyHash P (Str.ofString "__weakref__")) (Value.str (Str.ofString "__weakref__") 872) (Value.ref 489)), (DictEntry.mk (PyData.keyHash P (Str.ofString "__doc__")) (Value.str (Str.ofString "__doc__") 873) Value.none)] 4) #[])) ::
(nat_lit 487, (Obj.mk (Value.type "type") none (Data.cls (ClassData.mk (Str.ofString "PlainLisp") [(Value.type "object")] [(Value.ref 487), (Value.type "object")] 486 (Str.ofString "PlainLisp") Bool.true [] [] Bool.false none Bool.false)) #[none, none, (some (Value.str (Str.ofString "PlainLisp") 785)), (some (Value.str (Str.ofString "PlainLisp") 793)), (some (Value.builtin "object.__new__")), (some (Value.bool Bool.true))])) ::
(nat_lit 488, (Obj.mk (Value.type "getset_descriptor") none (Data.fields #[(Value.str (Str.ofString "__dict__") 869), (Value.ref 487), (Value.builtin "function.__dict__"), (Value.builtin "function.__dict__#set")]) #[])) ::
(nat_lit 489, (Obj.mk (Value.type "getset_descriptor") none (Data.fields #[(Value.str (Str.ofString "__weakref__") 871), (Value.ref 487), (Value.builtin "ExceptionGroup.__weakref__"), Value.none]) #[])) ::
(nat_lit 492, (Obj.mk (Value.type "tuple") none (Data.seq #[] 0) #[])) ::
(nat_lit 494, (Obj.mk (Value.type "tuple") none (Data.seq #[(Value.str (Str.ofString "deck") 881), (Value.str (Str.ofString "many") 882)] 0) #[])) ::
(nat_lit 495, (Obj.mk (Value.type "tuple") none (Data.seq #[] 0) #[])) ::
(nat_lit 497, (Obj.mk (Value.type "code") none (Data.fields #[(Value.str (Str.ofString "_law_draw") 878), (Value.str (Str.ofString "_law_draw") 879), (Value.str (Str.ofString "/claim/cut.py") 880), (Value.int 361 0), (Value.int 2 0), (Value.int 0 0), (Value.int 0 0), (Value.int 3 0), (Value.ref 492), (Value.bool Bool.true), (Value.int 181 0), (Value.ref 493), Value.none, (Value.ref 494), (Value.ref 495), (Value.ref 496), (Value.int 883 0), (Value.int 361 0), (Value.str (Str.ofString "/claim/cut.py") 884)]) #[])) ::
(nat_lit 498, (Obj.mk (Value.type "function") none (Data.func (FuncData.mk (Str.ofString "_law_draw") (Str.ofString "_law_draw") (pA (stA 52)) (.stmts (pB (stA 52))) (pS (stA 52)) 3 [] Value.none Value.none Value.none (Value.str (Str.ofString "law_np0087_01") 876) none (Value.ref 497) Value.none 0)) #[])) ::
(nat_lit 499, (Obj.mk (Value.type "tuple") none (Data.seq #[] 0) #[])) ::
(nat_lit 501, (Obj.mk (Value.type "tuple") none (Data.seq #[(Value.str (Str.ofString "deck") 889)] 0) #[])) ::
(nat_lit 502, (Obj.mk (Value.type "tuple") none (Data.seq #[] 0) #[])) ::
(nat_lit 504, (Obj.mk (Value.type "code") none (Data.fields #[(Value.str (Str.ofString "_law_value") 886), (Value.str (Str.ofString "_law_value") 887), (Value.str (Str.ofString "/claim/cut.py") 888), (Value.int 366 0), (Value.int 1 0), (Value.int 0 0), (Value.int 0 0), (Value.int 3 0), (Value.ref 499), (Value.bool Bool.true), (Value.int 181 0), (Value.ref 500), Value.none, (Value.ref 501), (Value.ref 502), (Value.ref 503), (Value.int 890 0), (Value.int 366 0), (Value.str (Str.ofString "/claim/cut.py") 891)]) #[])) ::
(nat_lit 505, (Obj.mk (Value.type "function") none (Data.func (FuncData.mk (Str.ofString "_law_value") (Str.ofString "_law_value") (pA (stA 53)) (.stmts (pB (stA 53))) (pS (stA 53)) 3 [] Value.none Value.none Value.none (Value.str (Str.ofString "law_np0087_01") 876) none (Value.ref 504) Value.none 0)) #[])) ::
(nat_lit 506, (Obj.mk (Value.type "tuple") none (Data.seq #[] 0) #[])) ::
(nat_lit 508, (Obj.mk (Value.type "tuple") none (Data.seq #[(Value.str (Str.ofString "deck") 896), (Value.str (Str.ofString "plist") 897)] 0) #[])) ::
(nat_lit 509, (Obj.mk (Value.type "tuple") none (Data.seq #[] 0) #[])) ::
(nat_lit 511, (Obj.mk (Value.type "code") none (Data.fields #[(Value.str (Str.ofString "_law_plist") 893), (Value.str (Str.ofString "_law_plist") 894), (Value.str (Str.ofString "/claim/cut.py") 895), (Value.int 368 0), (Value.int 1 0), (Value.int 0 0), (Value.int 0 0), (Value.int 3 0), (Value.ref 506), (Value.bool Bool.true), (Value.int 181 0), (Value.ref 507), Value.none, (Value.ref 508), (Value.ref 509), (Value.ref 510), (Value.int 898 0), (Value.int 368 0), (Value.str (Str.ofString "/claim/cut.py") 899)]) #[])) ::
(nat_lit 512, (Obj.mk (Value.type "function") none (Data.func (FuncData.mk (Str.ofString "_law_plist") (Str.ofString "_law_plist") (pA (stA 54)) (.stmts (pB (stA 54))) (pS (stA 54)) 3 [] Value.none Value.none Value.none (Value.str (Str.ofString "law_np0087_01") 876) none (Value.ref 511) Value.none 0)) #[])) ::
(nat_lit 513, (Obj.mk (Value.type "tuple") none (Data.seq #[] 0) #[])) ::
(nat_lit 515, (Obj.mk (Value.type "tuple") none (Data.seq #[(Value.str (Str.ofString "plist") 904), (Value.str (Str.ofString "number") 905), (Value.str (Str.ofString "my_held") 906), (Value.str (Str.ofString "own") 907), (Value.str (Str.ofString "value") 908)] 0) #[])) ::
(nat_lit 516, (Obj.mk (Value.type "tuple") none (Data.seq #[] 0) #[])) ::
(nat_lit 518, (Obj.mk (Value.type "code") none (Data.fields #[(Value.str (Str.ofString "_law_one") 901), (Value.str (Str.ofString "_law_one") 902), (Value.str (Str.ofString "/claim/cut.py") 903), (Value.int 371 0), (Value.int 3 0), (Value.int 0 0), (Value.int 0 0), (Value.int 3 0), (Value.ref 513), (Value.bool Bool.true), (Value.int 181 0), (Value.ref 514), Value.none, (Value.ref 515), (Value.ref 516), (Value.ref 517), (Value.int 909 0), (Value.int 371 0), (Value.str (Str.ofString "/claim/cut.py") 910)]) #[])) ::
(nat_lit 519, (Obj.mk (Value.type "function") none (Data.func (FuncData.mk (Str.ofString "_law_one") (Str.ofString "_law_one") (pA (stA 55)) (.stmts (pB (stA 55))) (pS (stA 55)) 3 [] Value.none Value.none Value.none (Value.str (Str.ofString "law_np0087_01") 876) none (Value.ref 518) Value.none 0)) #[])) ::
(nat_lit 520, (Obj.mk (Value.type "tuple") none (Data.seq #[] 0) #[])) ::
(nat_lit 523, (Obj.mk (Value.type "code") none (Data.fields #[(Value.str (Str.ofString "_law_all") 912), (Value.str (Str.ofString "_law_all") 913), (Value.str (Str.ofString "/claim/cut.py") 914), (Value.int 379 0), (Value.int 1 0), (Value.int 0 0), (Value.int 0 0), (Value.int 3 0), (Value.ref 520), (Value.bool Bool.true), (Value.int 181 0), (Value.ref 521), Value.none, Value.none, Value.none, (Value.ref 522), (Value.int 915 0), (Value.int 379 0), (Value.str (Str.ofString "/claim/cut.py") 916)]) #[])) ::
(nat_lit 524, (Obj.mk (Value.type "function") none (Data.func (FuncData.mk (Str.ofString "_law_all") (Str.ofString "_law_all") (pA (stA 56)) (.stmts (pB (stA 56))) (pS (stA 56)) 3 [] Value.none Value.none Value.none (Value.str (Str.ofString "law_np0087_01") 876) none (Value.ref 523) Value.none 0)) #[])) ::
(nat_lit 525, (Obj.mk (Value.type "tuple") none (Data.seq #[] 0) #[])) ::
(nat_lit 527, (Obj.mk (Value.type "tuple") none (Data.seq #[(Value.str (Str.ofString "looks") 921), (Value.str (Str.ofString "at") 922), (Value.str (Str.ofString "limit") 923), (Value.str (Str.ofString "place") 924)] 0) #[])) ::
(nat_lit 528, (Obj.mk (Value.type "tuple") none (Data.seq #[] 0) #[])) ::
(nat_lit 530, (Obj.mk (Value.type "code") none (Data.fields #[(Value.str (Str.ofString "_law_next") 918), (Value.str (Str.ofString "_law_next") 919), (Value.str (Str.ofString "/claim/cut.py") 920), (Value.int 381 0), (Value.int 3 0), (Value.int 0 0), (Value.int 0 0), (Value.int 3 0), (Value.ref 525), (Value.bool Bool.true), (Value.int 181 0), (Value.ref 526), Value.none, (Value.ref 527), (Value.ref 528), (Value.ref 529), (Value.int 925 0), (Value.int 381 0), (Value.str (Str.ofString "/claim/cut.py") 926)]) #[])) ::
(nat_lit 531, (Obj.mk (Value.type "function") none (Data.func (FuncData.mk (Str.ofString "_law_next") (Str.ofString "_law_next") (pA (stA 57)) (.stmts (pB (stA 57))) (pS (stA 57)) 3 [] Value.none Value.none Value.none (Value.str (Str.ofString "law_np0087_01") 876) none (Value.ref 530) Value.none 0)) #[])) ::
(nat_lit 532, (Obj.mk (Value.type "tuple") none (Data.seq #[] 0) #[])) ::
(nat_lit 534, (Obj.mk (Value.type "tuple") none (Data.seq #[(Value.str (Str.ofString "looks") 931), (Value.str (Str.ofString "at") 932), (Value.str (Str.ofString "limit") 933), (Value.str (Str.ofString "place") 934)] 0) #[])) ::
(nat_lit 535, (Obj.mk (Value.type "tuple") none (Data.seq #[] 0) #[])) ::
(nat_lit 537, (Obj.mk (Value.type "code") none (Data.fields #[(Value.str (Str.ofString "_law_last") 928), (Value.str (Str.ofString "_law_last") 929), (Value.str (Str.ofString "/claim/cut.py") 930), (Value.int 386 0), (Value.int 3 0), (Value.int 0 0), (Value.int 0 0), (Value.int 3 0), (Value.ref 532), (Value.bool Bool.true), (Value.int 181 0), (Value.ref 533), Value.none, (Value.ref 534), (Value.ref 535), (Value.ref 536), (Value.int 935 0), (Value.int 386 0), (Value.str (Str.ofString "/claim/cut.py") 936)]) #[])) ::
(nat_lit 538, (Obj.mk (Value.type "function") none (Data.func (FuncData.mk (Str.ofString "_law_last") (Str.ofString "_law_last") (pA (stA 58)) (.stmts (pB (stA 58))) (pS (stA 58)) 3 [] Value.none Value.none Value.none (Value.str (Str.ofString "law_np0087_01") 876) none (Value.ref 537) Value.none 0)) #[])) ::
(nat_lit 539, (Obj.mk (Value.type "tuple") none (Data.seq #[] 0) #[])) ::
(nat_lit 542, (Obj.mk (Value.type "code") none (Data.fields #[(Value.str (Str.ofString "law") 938), (Value.str (Str.ofString "law") 939), (Value.str (Str.ofString "/claim/cut.py") 940), (Value.int 391 0), (Value.int 1 0), (Value.int 0 0), (Value.int 0 0), (Value.int 3 0), (Value.ref 539), (Value.bool Bool.true), (Value.int 181 0), (Value.ref 540), Value.none, Value.none, Value.none, (Value.ref 541), (Value.int 941 0), (Value.int 391 0), (Value.str (Str.ofString "/claim/cut.py") 942)]) #[])) ::
(nat_lit 543, (Obj.mk (Value.type "function") none (Data.func (FuncData.mk (Str.ofString "law") (Str.ofString "law") (pA (stA 59)) (.stmts (pB (stA 59))) (Scope.mk ScopeKind.function [((Str.ofString "script"), NameKind.local), ((Str.ofString "deck"), NameKind.cell), ((Str.ofString "my_turn"), NameKind.local), ((Str.ofString "my_rows"), NameKind.local), ((Str.ofString "chars"), NameKind.local), ((Str.ofString "many"), NameKind.local), ((Str.ofString "plist"), NameKind.local), ((Str.ofString "props"), NameKind.local), ((Str.ofString "lisp"), NameKind.local), ((Str.ofString "my_held"), NameKind.cell), ((Str.ofString "rules"), NameKind.local), ((Str.ofString "at"), NameKind.local), ((Str.ofString "number"), NameKind.cell), ((Str.ofString "limit"), NameKind.local), ((Str.ofString "looks"), NameKind.cell), ((Str.ofString "my_whole"), NameKind.local), ((Str.ofString "due"), NameKind.local), ((Str.ofString "my_told"), NameKind.local), ((Str.ofString "value"), NameKind.cell), ((Str.ofString "with_it"), NameKind.cell), ((Str.ofString "my_without"), NameKind.local), ((Str.ofString "range"), NameKind.globalImplicit), ((Str.ofString "_law_draw"), NameKind.globalImplicit), ((Str.ofString "props_of_rows"), NameKind.globalImplicit), ((Str.ofString "PlainLisp"), NameKind.globalImplicit), ((Str.ofString "_law_value"), NameKind.globalImplicit), ((Str.ofString "PropRules"), NameKind.globalImplicit), ((Str.ofString "len"), NameKind.globalImplicit), ((Str.ofString "_law_next"), NameKind.globalImplicit), ((Str.ofString "_law_last"), NameKind.globalImplicit), ((Str.ofString "next_change"), NameKind.globalImplicit), ((Str.ofString "next_single"), NameKind.globalImplicit), ((Str.ofString "previous_change"), NameKind.globalImplicit), ((Str.ofString "previous_single"), NameKind.globalImplicit), ((Str.ofString "first_with"), NameKind.globalImplicit), ((Str.ofString "first_without"), NameKind.globalImplicit)] Bool.false Bool.false [((Str.ofString "fast"), (Const.str (Str.ofString "script"))), ((Str.ofString "fast"), (Const.str (Str.ofString "cell"))), ((Str.ofString "fast"), (Const.str (Str.ofString "deck"))), ((Str.ofString "fast"), (Const.str (Str.ofString "my_turn"))), ((Str.ofString "fast"), (Const.str (Str.ofString "my_rows"))), ((Str.ofString "fast"), (Const.str (Str.ofString "chars"))), ((Str.ofString "fast"), (Const.str (Str.ofString "many"))), ((Str.ofString "fast"), (Const.str (Str.ofString "plist"))), ((Str.ofString "fast"), (Const.str (Str.ofString "props"))), ((Str.ofString "fast"), (Const.str (Str.ofString "lisp"))), ((Str.ofString "fast"), (Const.str (Str.ofString "my_held"))), ((Str.ofString "fast"), (Const.str (Str.ofString "rules"))), ((Str.ofString "fast"), (Const.str (Str.ofString "at"))), ((Str.ofString "fast"), (Const.str (Str.ofString "number"))), ((Str.ofString "fast"), (Const.str (Str.ofString "limit"))), ((Str.ofString "fast"), (Const.str (Str.ofString "looks"))), ((Str.ofString "fast"), (Const.str (Str.ofString "my_whole"))), ((Str.ofString "fast"), (Const.str (Str.ofString "due"))), ((Str.ofString "fast"), (Const.str (Str.ofString "my_told"))), ((Str.ofString "fast"), (Const.str (Str.ofString "value"))), ((Str.ofString "fast"), (Const.str (Str.ofString "place"))), ((Str.ofString "fast"), (Const.str (Str.ofString "with_it"))), ((Str.ofString "fast"), (Const.str (Str.ofString "my_without")))]) 3 [] Value.none Value.none Value.none (Value.str (Str.ofString "law_np0087_01") 876) none (Value.ref 542) Value.none 0)) #[])) :: []

local macro_rules | `(tactic| walk_at $s:str) => `(tactic| k_extra $(Lean.Syntax.mkStrLit (s.getString ++ "#")))
local macro_rules | `(tactic| k_all) => `(tactic| k_extra "mine all")
local macro_rules | `(tactic| k_mem) => `(tactic| k_extra "mine mem")
local macro_rules | `(tactic| ktr_units) => `(tactic| k_extra "mine units")
theorem fillA : (PySem.Challenge.rw_np0087_01 = PySem.Challenge.rw_np0087_01) ∧ (Mine.K0 = Mine.K0) := by
  k_fill
  exact ⟨rfl, rfl⟩

section TM0
open PySem PySem.W PyProof.Rows PySem.Calls PySem.Spec
set_option maxRecDepth 100000
set_option maxHeartbeats 8000000

structure Node where
  d : Addr
  total : Int
  plist : Addr
  left : Option Addr
  right : Option Addr
  parent : Option Addr

structure St where
  root : Option Addr
  nd : Addr → Option Node

noncomputable def St.set (σ : St) (a : Addr) (n : Node) : St := { σ with nd := fun x => if x = a then some n else σ.nd x }

noncomputable def optV : Option Addr → Value
  | none => .none
  | some a => .ref a

theorem optV_some (a : Addr) : optV (some a) = .ref a := rfl
theorem optV_none : optV none = .none := rfl
noncomputable def nodeDict (P : Params) (t0 t1 t2 t3 t4 t5 : Tok) (n : Node) : Obj :=
  dictOf [⟨PyData.keyHash P "total", .str "total" t1, .int n.total t0⟩,
    ⟨PyData.keyHash P "plist", .str "plist" t2, .ref n.plist⟩,
    ⟨PyData.keyHash P "left", .str "left" t3, optV n.left⟩,
    ⟨PyData.keyHash P "right", .str "right" t4, optV n.right⟩,
    ⟨PyData.keyHash P "parent", .str "parent" t5, optV n.parent⟩] 5

noncomputable def rootDict (P : Params) (t1 : Tok) (r : Option Addr) : Obj := dictOf [⟨PyData.keyHash P "root", .str "root" t1, optV r⟩] 1

noncomputable abbrev Led := List (Addr × Obj)

structure HasNode (P : Params) (S : Led) (a : Addr) (n : Node) : Prop where
  inst : (a, instObj 38 n.d) ∈ S
  dict : ∃ t0 t1 t2 t3 t4 t5, (n.d, nodeDict P t0 t1 t2 t3 t4 t5 n) ∈ S

structure HasRoot (P : Params) (S : Led) (tr dtr : Addr) (r : Option Addr) : Prop where
  inst : (tr, instObj 59 dtr) ∈ S
  dict : ∃ t1, (dtr, rootDict P t1 r) ∈ S

structure Rep (P : Params) (tr dtr : Addr) (S : Led) (σ : St) : Prop where
  nodes : ∀ a n, σ.nd a = some n → HasNode P S a n
  inj : ∀ a b n m, σ.nd a = some n → σ.nd b = some m → n.d = m.d → a = b
  apart : ∀ a n, σ.nd a = some n → n.d ≠ dtr
  tree : HasRoot P S tr dtr σ.root

noncomputable def Dj (R S : Led) : Prop := ∀ p ∈ R, p.1 ∉ S.map (·.1)

noncomputable def updL (d : Addr) (o : Obj) (S : Led) : Led := S.map fun p => if p.1 = d then (d, o) else p

theorem updL_fst (d : Addr) (o : Obj) (S : Led) : (updL d o S).map (·.1) = S.map (·.1) := by
  unfold updL
  rw [List.map_map]
  apply List.map_congr_left
  intro p _
  simp only [Function.comp]
  split
  · rename_i h; exact h.symm
  · rfl

theorem mem_updL_ne {d : Addr} {o : Obj} {S : Led} {p : Addr × Obj} (h : p ∈ S) (hd : p.1 ≠ d) : p ∈ updL d o S := by
  unfold updL
  refine List.mem_map.mpr ⟨p, h, ?_⟩
  rw [if_neg hd]

theorem mem_updL_self {d : Addr} {o o' : Obj} {S : Led} (h : (d, o') ∈ S) : (d, o) ∈ updL d o S := by
  unfold updL
  refine List.mem_map.mpr ⟨(d, o'), h, ?_⟩
  simp

theorem Dj.of_eq {R S S' : Led} (e : S'.map (·.1) = S.map (·.1)) (j : Dj R S) : Dj R S' := fun p hp => by rw [e]; exact j p hp

inductive Cut : Led → Led → Led → Prop
  | base {R S : Led} : Cut (R ++ S) R S
  | cons {l R S : Led} {c : Addr × Obj} : Cut l R S → Cut (c :: l) (c :: R) S
theorem Cut.eq : ∀ {l R S : Led}, Cut l R S → l = R ++ S
  | _, _, _, .base => rfl
  | _, _, _, .cons h => by rw [h.eq]; rfl

theorem News.cut {h₀ h : Heap} {L : Addr} {l R S : Led} (N : News h₀ L h l) (C : Cut l R S) : News h₀ L h (R ++ S) := C.eq ▸ N

theorem Dj.cons {R S : Led} {q : Addr} {o : Obj} (h : AllLt q (R ++ S)) (j : Dj R S) : Dj ((q, o) :: R) S := by
  have all : ∀ {l : Led}, AllLt q l → ∀ p ∈ l, p.1 < q := by
    intro l
    induction l with
    | nil => intro _ p hp; cases hp
    | cons c l ih =>
      intro h p hp
      rcases List.mem_cons.mp hp with rfl | hp
      · exact h.1
      · exact ih h.2 p hp
  intro p hp
  rcases List.mem_cons.mp hp with rfl | hp
  · intro hm
    obtain ⟨r, hr, he⟩ := List.mem_map.mp hm
    have := all h r (List.mem_append_right _ hr)
    dsimp only at he
    exact absurd this (he ▸ Nat.lt_irrefl _)
  · exact j p hp

section
variable {prog : Program} {w : World} {A : Around} {E : Value → Shared → Prop} {s : Shared} {h₀ : Heap} {L : Addr} {m : Str → Option Value} {R S news : Led} {a : Addr} {n : Node} {tr dtr : Addr} {σ : St} {P : Params}

theorem HasNode.mono {S S' : Led} (H : HasNode P S a n) (h : ∀ p ∈ S, p ∈ S') : HasNode P S' a n := by
  obtain ⟨h1, t0, t1, t2, t3, t4, t5, h2⟩ := H
  exact ⟨h _ h1, t0, t1, t2, t3, t4, t5, h _ h2⟩
theorem HasRoot.mono {S S' : Led} {r : Option Addr} (H : HasRoot P S tr dtr r) (h : ∀ p ∈ S, p ∈ S') : HasRoot P S' tr dtr r := by
  obtain ⟨h1, t1, h2⟩ := H
  exact ⟨h _ h1, t1, h _ h2⟩

theorem handed_optV (v : Option Addr) : handedIn (optV v) = true := by cases v <;> rfl

section gets
variable {expr : Bool} {Q : Value → Shared → Prop} (F : Fr h₀ L s.heap m) (X : (Mine.K0 w.params).In h₀) (N : News h₀ L s.heap news) (H : HasNode w.params news a n)
include F X N H
theorem get_total (h : ∀ t, Q (.int n.total t) { s with toks := s.toks + 1 }) : wpAny (model prog w) A (getAttr (.ref a) (Str.ofString "total") expr) Q E s := by
  obtain ⟨h1, t0, t1, t2, t3, t4, t5, h2⟩ := H
  exact get_own (attr := none) F X (InstAt.of_news N h1 h2) (by k_is) (by k_is) (by k_is) (by k_is) rfl rfl (h t0)
theorem get_plist (h : Q (.ref n.plist) { s with toks := s.toks + 1 }) : wpAny (model prog w) A (getAttr (.ref a) (Str.ofString "plist") expr) Q E s := by
  obtain ⟨h1, t0, t1, t2, t3, t4, t5, h2⟩ := H
  exact get_own (attr := none) F X (InstAt.of_news N h1 h2) (by k_is) (by k_is) (by k_is) (by k_is) rfl rfl h
theorem get_left (h : Q (optV n.left) { s with toks := s.toks + 1 }) : wpAny (model prog w) A (getAttr (.ref a) (Str.ofString "left") expr) Q E s := by
  obtain ⟨h1, t0, t1, t2, t3, t4, t5, h2⟩ := H
  exact get_own (attr := none) F X (InstAt.of_news N h1 h2) (by k_is) (by k_is) (by k_is) (by k_is) rfl (handed_optV _) h
theorem get_right (h : Q (optV n.right) { s with toks := s.toks + 1 }) : wpAny (model prog w) A (getAttr (.ref a) (Str.ofString "right") expr) Q E s := by
  obtain ⟨h1, t0, t1, t2, t3, t4, t5, h2⟩ := H
  exact get_own (attr := none) F X (InstAt.of_news N h1 h2) (by k_is) (by k_is) (by k_is) (by k_is) rfl (handed_optV _) h
theorem get_parent (h : Q (optV n.parent) { s with toks := s.toks + 1 }) : wpAny (model prog w) A (getAttr (.ref a) (Str.ofString "parent") expr) Q E s := by
  obtain ⟨h1, t0, t1, t2, t3, t4, t5, h2⟩ := H
  exact get_own (attr := none) F X (InstAt.of_news N h1 h2) (by k_is) (by k_is) (by k_is) (by k_is) rfl (handed_optV _) h
end gets

theorem get_root {expr : Bool} {Q : Value → Shared → Prop} {r : Option Addr} (F : Fr h₀ L s.heap m) (X : (Mine.K0 w.params).In h₀) (N : News h₀ L s.heap news) (H : HasRoot w.params news tr dtr r)
  (h : Q (optV r) { s with toks := s.toks + 1 }) : wpAny (model prog w) A (getAttr (.ref tr) (Str.ofString "root") expr) Q E s := by
  obtain ⟨h1, t1, h2⟩ := H
  exact get_own (attr := none) F X (InstAt.of_news N h1 h2) (by k_is) (by k_is) (by k_is) (by k_is) rfl (handed_optV _) h

/-- the store of one attribute, over an abstract ledger -/
theorem set_any {Q : Unit → Shared → Prop} {C dx : Addr} {name : Str} {v : Value} {es es' : List DictEntry} {k k' : Nat} (F : Fr h₀ L s.heap m) (X : (Mine.K0 w.params).In h₀) (N : News h₀ L s.heap (R ++ S)) (j : Dj R S)
    (h1 : (a, instObj C dx) ∈ S) (h2 : (dx, dictOf es k) ∈ S)
    (hs : findIn (Mine.K0 w.params) (.ref C) "__setattr__" = some (some (.builtin "object.__setattr__"))) (hp : plainOver (Mine.K0 w.params) C = true) (ht : takerIn (Mine.K0 w.params) C name = some none) (hh : hasDictIn (Mine.K0 w.params) C = true) (hl : (getL name es).isSome = true)
    (e : (putL name (PyData.keyHash w.params name) (.str name (s.toks + 1)) v es, putN name es k) = (es', k')) (hz : es'.length ≤ 1000)
    (h : ∀ h', Fr h₀ L h' m → News h₀ L h' (R ++ updL dx (dictOf es' k') S) → Q () { s with heap := h', toks := s.toks + 2 }) :
    wpAny (model prog w) A (setAttr (.ref a) name v) Q E s := by
  have hfil : ∀ p ∈ (R ++ S).filter (fun p => decide (p.1 ≠ dx)), p.1 ≠ dx := fun p hp => by simpa using (List.mem_filter.mp hp).2
  have N1 : News h₀ L s.heap ((R ++ S).filter (fun p => decide (p.1 ≠ dx)) ++ (dx, dictOf es k) :: []) := by
    intro p hp
    rcases List.mem_append.mp hp with q | q
    · exact N p (List.mem_filter.mp q).1
    · rcases List.mem_cons.mp q with rfl | q
      · exact N _ (List.mem_append_right _ h2)
      · cases q
  obtain ⟨e1, e2⟩ := Prod.mk.inj e
  refine set_plain (X.keeps F.keep) (InstAt.of_news N (List.mem_append_right _ h1) (List.mem_append_right _ h2)) hs (osa_dict (s := { s with toks := s.toks + 1 }) F N1 (X.keeps F.keep) (InstAt.of_news N (List.mem_append_right _ h1) (List.mem_append_right _ h2)) rfl hp ht hh hl hfil (fun p hp => by cases hp) (by rw [putName_dict, e1, e2]) rfl hz fun h' F' N' => h h' F' ?_)
  intro p hp
  rcases List.mem_append.mp hp with q | q
  · refine N' p (List.mem_append_left _ (List.mem_filter.mpr ⟨List.mem_append_left _ q, ?_⟩))
    have := j p q
    have hne : p.1 ≠ dx := fun he => this (List.mem_map.mpr ⟨(dx, dictOf es k), h2, he.symm⟩)
    simpa using hne
  · unfold updL at q
    obtain ⟨r, hr, he⟩ := List.mem_map.mp q
    by_cases hd : r.1 = dx
    · rw [if_pos hd] at he
      subst he
      exact N' _ (by simp)
    · rw [if_neg hd] at he
      subst he
      exact N' _ (List.mem_append_left _ (List.mem_filter.mpr ⟨List.mem_append_right _ hr, by simpa using hd⟩))

/-- two entries of one ledger at one address are one -/
theorem News.one {h : Heap} {l : Led} {b : Addr} {o o' : Obj} (N : News h₀ L h l) (x : (b, o) ∈ l) (y : (b, o') ∈ l) : o = o' := by
  have e1 := (N _ x).1
  have e2 := (N _ y).1
  dsimp only at e1 e2
  rw [e1] at e2
  exact Option.some.inj e2

theorem inst_ne_dict {C d : Addr} {es : List DictEntry} {k : Nat} : instObj C d ≠ dictOf es k := by
  intro h
  have := congrArg Obj.cls h
  cases this

theorem Rep.set_node {h : Heap} {n' : Node} {t0 t1 t2 t3 t4 t5 : Tok} (N : News h₀ L h (R ++ S)) (G : Rep P tr dtr S σ) (ha : σ.nd a = some n) (hd : n'.d = n.d) :
    Rep P tr dtr (updL n.d (nodeDict P t0 t1 t2 t3 t4 t5 n') S) (σ.set a n') := by
  obtain ⟨G1, G2, G4, G3⟩ := G
  obtain ⟨hi, u0, u1, u2, u3, u4, u5, hdict⟩ := G1 a n ha
  have keepI : ∀ (b C x : Addr), (b, instObj C x) ∈ S → (b, instObj C x) ∈ updL n.d (nodeDict P t0 t1 t2 t3 t4 t5 n') S := fun b C x hb => mem_updL_ne hb fun he => by
    dsimp only at he
    subst he
    exact inst_ne_dict (News.one N (List.mem_append_right _ hb) (List.mem_append_right _ hdict))
  refine ⟨fun b m hb => ?_, fun b c m m' hb hc he => ?_, fun b m hb => ?_, ?_⟩
  · simp only [St.set] at hb
    by_cases hba : b = a
    · rw [if_pos hba] at hb
      cases hb
      subst hba
      exact ⟨by rw [hd]; exact keepI _ _ _ hi, t0, t1, t2, t3, t4, t5, by rw [hd]; exact mem_updL_self hdict⟩
    · rw [if_neg hba] at hb
      obtain ⟨bi, v0, v1, v2, v3, v4, v5, bd⟩ := G1 b m hb
      exact ⟨keepI _ _ _ bi, v0, v1, v2, v3, v4, v5, mem_updL_ne bd fun he => hba (G2 b a m n hb ha he)⟩
  · simp only [St.set] at hb hc
    have e1 : ∃ k, σ.nd b = some k ∧ k.d = m.d := by
      by_cases hba : b = a
      · rw [if_pos hba] at hb; cases hb; exact ⟨n, hba ▸ ha, hd.symm⟩
      · rw [if_neg hba] at hb; exact ⟨m, hb, rfl⟩
    have e2 : ∃ k, σ.nd c = some k ∧ k.d = m'.d := by
      by_cases hca : c = a
      · rw [if_pos hca] at hc; cases hc; exact ⟨n, hca ▸ ha, hd.symm⟩
      · rw [if_neg hca] at hc; exact ⟨m', hc, rfl⟩
    obtain ⟨k1, k2, k3⟩ := e1
    obtain ⟨l1, l2, l3⟩ := e2
    exact G2 b c k1 l1 k2 l2 (k3.trans (he.trans l3.symm))
  · simp only [St.set] at hb
    by_cases hba : b = a
    · rw [if_pos hba] at hb; cases hb; rw [hd]; exact G4 _ _ ha
    · rw [if_neg hba] at hb; exact G4 _ _ hb
  · obtain ⟨ti, t, td⟩ := G3
    exact ⟨keepI _ _ _ ti, t, mem_updL_ne td fun he => G4 _ _ ha he.symm⟩

noncomputable def St.withRoot (σ : St) (r : Option Addr) : St := { σ with root := r }
theorem Rep.set_root {h : Heap} {r : Option Addr} {t1 : Tok} (N : News h₀ L h (R ++ S)) (G : Rep P tr dtr S σ) : Rep P tr dtr (updL dtr (rootDict P t1 r) S) (σ.withRoot r) := by
  obtain ⟨G1, G2, G4, G3⟩ := G
  obtain ⟨ti, t, td⟩ := G3
  have keepI : ∀ (b C x : Addr), (b, instObj C x) ∈ S → (b, instObj C x) ∈ updL dtr (rootDict P t1 r) S := fun b C x hb => mem_updL_ne hb fun he => by
    dsimp only at he
    subst he
    exact inst_ne_dict (News.one N (List.mem_append_right _ hb) (List.mem_append_right _ td))
  refine ⟨fun b m hb => ?_, G2, G4, ⟨keepI _ _ _ ti, t1, mem_updL_self td⟩⟩
  obtain ⟨bi, v0, v1, v2, v3, v4, v5, bd⟩ := G1 b m hb
  exact ⟨keepI _ _ _ bi, v0, v1, v2, v3, v4, v5, mem_updL_ne bd fun he => G4 _ _ hb he⟩

section sets
variable {Q : Unit → Shared → Prop} (F : Fr h₀ L s.heap m) (X : (Mine.K0 w.params).In h₀) (N : News h₀ L s.heap news) (C : Cut news R S) (j : Dj R S) (G : Rep w.params tr dtr S σ)
include F X N C j G
theorem put_total {k : Int} {t : Tok} (ha : σ.nd a = some n)
    (h : ∀ h' S', Fr h₀ L h' m → News h₀ L h' (R ++ S') → S'.map (·.1) = S.map (·.1) → Dj R S' → Rep w.params tr dtr S' (σ.set a { n with total := k }) → Q () { s with heap := h', toks := s.toks + 2 }) :
    wpAny (model prog w) A (setAttr (.ref a) (Str.ofString "total") (.int k t)) Q E s := by
  have N := News.cut N C
  obtain ⟨h1, t0, t1, t2, t3, t4, t5, h2⟩ := G.nodes a n ha
  exact set_any F X N j h1 h2 (by k_is) (by k_is) (by k_is) (by k_is) (by k_get) (by k_put) (Nat.le_of_ble_eq_true rfl) fun h' F' N' => h h' _ F' N' (updL_fst _ _ _) (Dj.of_eq (updL_fst _ _ _) j) (Rep.set_node (n' := { n with total := k }) (t0 := t) N G ha rfl)
theorem put_left {v : Option Addr} (ha : σ.nd a = some n)
    (h : ∀ h' S', Fr h₀ L h' m → News h₀ L h' (R ++ S') → S'.map (·.1) = S.map (·.1) → Dj R S' → Rep w.params tr dtr S' (σ.set a { n with left := v }) → Q () { s with heap := h', toks := s.toks + 2 }) :
    wpAny (model prog w) A (setAttr (.ref a) (Str.ofString "left") (optV v)) Q E s := by
  have N := News.cut N C
  obtain ⟨h1, t0, t1, t2, t3, t4, t5, h2⟩ := G.nodes a n ha
  exact set_any F X N j h1 h2 (by k_is) (by k_is) (by k_is) (by k_is) (by k_get) (by k_put) (Nat.le_of_ble_eq_true rfl) fun h' F' N' => h h' _ F' N' (updL_fst _ _ _) (Dj.of_eq (updL_fst _ _ _) j) (Rep.set_node (n' := { n with left := v }) N G ha rfl)
theorem put_right {v : Option Addr} (ha : σ.nd a = some n)
    (h : ∀ h' S', Fr h₀ L h' m → News h₀ L h' (R ++ S') → S'.map (·.1) = S.map (·.1) → Dj R S' → Rep w.params tr dtr S' (σ.set a { n with right := v }) → Q () { s with heap := h', toks := s.toks + 2 }) :
    wpAny (model prog w) A (setAttr (.ref a) (Str.ofString "right") (optV v)) Q E s := by
  have N := News.cut N C
  obtain ⟨h1, t0, t1, t2, t3, t4, t5, h2⟩ := G.nodes a n ha
  exact set_any F X N j h1 h2 (by k_is) (by k_is) (by k_is) (by k_is) (by k_get) (by k_put) (Nat.le_of_ble_eq_true rfl) fun h' F' N' => h h' _ F' N' (updL_fst _ _ _) (Dj.of_eq (updL_fst _ _ _) j) (Rep.set_node (n' := { n with right := v }) N G ha rfl)
theorem put_parent {v : Option Addr} (ha : σ.nd a = some n)
    (h : ∀ h' S', Fr h₀ L h' m → News h₀ L h' (R ++ S') → S'.map (·.1) = S.map (·.1) → Dj R S' → Rep w.params tr dtr S' (σ.set a { n with parent := v }) → Q () { s with heap := h', toks := s.toks + 2 }) :
    wpAny (model prog w) A (setAttr (.ref a) (Str.ofString "parent") (optV v)) Q E s := by
  have N := News.cut N C
  obtain ⟨h1, t0, t1, t2, t3, t4, t5, h2⟩ := G.nodes a n ha
  exact set_any F X N j h1 h2 (by k_is) (by k_is) (by k_is) (by k_is) (by k_get) (by k_put) (Nat.le_of_ble_eq_true rfl) fun h' F' N' => h h' _ F' N' (updL_fst _ _ _) (Dj.of_eq (updL_fst _ _ _) j) (Rep.set_node (n' := { n with parent := v }) N G ha rfl)
theorem put_root {v : Option Addr}
    (h : ∀ h' S', Fr h₀ L h' m → News h₀ L h' (R ++ S') → S'.map (·.1) = S.map (·.1) → Dj R S' → Rep w.params tr dtr S' (σ.withRoot v) → Q () { s with heap := h', toks := s.toks + 2 }) :
    wpAny (model prog w) A (setAttr (.ref tr) (Str.ofString "root") (optV v)) Q E s := by
  have N := News.cut N C
  obtain ⟨h1, t1, h2⟩ := G.tree
  exact set_any F X N j h1 h2 (by k_is) (by k_is) (by k_is) (by k_is) (by k_get) (by k_put) (Nat.le_of_ble_eq_true rfl) fun h' F' N' => h h' _ F' N' (updL_fst _ _ _) (Dj.of_eq (updL_fst _ _ _) j) (Rep.set_root N G)
end sets
end
section
variable {prog : Program} {w : World} {A : Around} {E : Value → Shared → Prop} {s : Shared} {h₀ : Heap} {L : Addr} {m : Str → Option Value} {R S news : Led} {a b : Addr} {n : Node} {tr dtr : Addr} {σ : St} {P : Params}
variable {expr : Bool} {Q : Value → Shared → Prop} (F : Fr h₀ L s.heap m) (X : (Mine.K0 w.params).In h₀) (N : News h₀ L s.heap news) (H : HasNode w.params news a n)
include F X N H
theorem get_left_some (e : n.left = some b) (h : Q (.ref b) { s with toks := s.toks + 1 }) : wpAny (model prog w) A (getAttr (.ref a) (Str.ofString "left") expr) Q E s :=
  get_left F X N H (by rw [e]; exact h)
theorem get_left_none (e : n.left = none) (h : Q .none { s with toks := s.toks + 1 }) : wpAny (model prog w) A (getAttr (.ref a) (Str.ofString "left") expr) Q E s :=
  get_left F X N H (by rw [e]; exact h)
theorem get_right_some (e : n.right = some b) (h : Q (.ref b) { s with toks := s.toks + 1 }) : wpAny (model prog w) A (getAttr (.ref a) (Str.ofString "right") expr) Q E s :=
  get_right F X N H (by rw [e]; exact h)
theorem get_right_none (e : n.right = none) (h : Q .none { s with toks := s.toks + 1 }) : wpAny (model prog w) A (getAttr (.ref a) (Str.ofString "right") expr) Q E s :=
  get_right F X N H (by rw [e]; exact h)
theorem get_parent_some (e : n.parent = some b) (h : Q (.ref b) { s with toks := s.toks + 1 }) : wpAny (model prog w) A (getAttr (.ref a) (Str.ofString "parent") expr) Q E s :=
  get_parent F X N H (by rw [e]; exact h)
theorem get_parent_none (e : n.parent = none) (h : Q .none { s with toks := s.toks + 1 }) : wpAny (model prog w) A (getAttr (.ref a) (Str.ofString "parent") expr) Q E s :=
  get_parent F X N H (by rw [e]; exact h)
end
section
variable {prog : Program} {w : World} {A : Around} {E : Value → Shared → Prop} {s : Shared} {h₀ : Heap} {L : Addr} {m : Str → Option Value} {news : Led} {tr dtr b : Addr} {r : Option Addr} {expr : Bool} {Q : Value → Shared → Prop}
theorem get_root_some (F : Fr h₀ L s.heap m) (X : (Mine.K0 w.params).In h₀) (N : News h₀ L s.heap news) (H : HasRoot w.params news tr dtr r) (e : r = some b)
  (h : Q (.ref b) { s with toks := s.toks + 1 }) : wpAny (model prog w) A (getAttr (.ref tr) (Str.ofString "root") expr) Q E s := get_root F X N H (by rw [e]; exact h)
theorem get_root_none (F : Fr h₀ L s.heap m) (X : (Mine.K0 w.params).In h₀) (N : News h₀ L s.heap news) (H : HasRoot w.params news tr dtr r) (e : r = none)
  (h : Q .none { s with toks := s.toks + 1 }) : wpAny (model prog w) A (getAttr (.ref tr) (Str.ofString "root") expr) Q E s := get_root F X N H (by rw [e]; exact h)
end


/-- where a body stands that calls -/
inductive Site (w : World) : Around → Nat → Nat → Heap → Addr → Prop
  | mk {p : Program} {loose : List Str} {mean : ExcName → Option Value} {mg mb : Str → Option Value} {dp un : Nat} {gd : Option (List Code)} {cn : Str} {cs : Scope} {a : Addr} {ccd : Value} {cl : List (Str × Addr)} {outer : List Env} {A₀ : Around} {base h₀ : Heap} {L : Addr}
    (B : Below A₀ base outer h₀) (X : (Mine.K0 w.params).In h₀) (T : Top p loose mean mg mb h₀) (hk : cs.kind = .function) : Site w (ktrTop dp un gd cn cs L a ccd cl outer) dp un h₀ L
theorem room {dp n k r : Nat} (h : dp + n < r) (e : Nat.ble (k + 1) n = true) : dp + 1 + k < r := by
  have := Nat.le_of_ble_eq_true e
  (first | lia | omega)
theorem unitsL {un n k c : Nat} (h : un + 8 * n < c) (e : Nat.ble (k + 1) n = true) : un + 3 + 8 * k < c := by
  have := Nat.le_of_ble_eq_true e
  (first | lia | omega)
/-- what a call of the def at f gives, from whatever frame of a def: it changes nothing of the ledger -/
noncomputable def FnR (prog : Program) (w : World) (need : Nat) (f : Addr) (vs : List Value) (news : Led) (Post : Value → Prop) : Prop :=
  ∀ (A : Around) (dp un : Nat) (h₀ : Heap) (L : Addr) (m : Str → Option Value) (hp : Heap) (gn : Array GenState) (dr : Drawn) (tk : Nat) (os : OsState)
    (Q E : Value → Shared → Prop),
    Site w A dp un h₀ L → Fr h₀ L hp m → News h₀ L hp news → dp + need < recursionLimit → un + 8 * need < cLine →
    (∀ r h' tk', Fr h₀ L h' m → News h₀ L h' news → Post r → Q r ⟨h', gn, dr, tk', os⟩) →
    wpAny (model prog w) A (call (.ref f) vs) Q E ⟨hp, gn, dr, tk, os⟩

theorem FnR.use {prog : Program} {w : World} {need : Nat} {f : Addr} {vs : List Value} {news : Led} {Post : Value → Prop} (C : FnR prog w need f vs news Post)
    {A : Around} {dp un : Nat} {h₀ : Heap} {L : Addr} {m : Str → Option Value} {hp : Heap} {gn : Array GenState} {dr : Drawn} {tk : Nat} {os : OsState}
    {Q E : Value → Shared → Prop} (S₀ : Site w A dp un h₀ L) (F : Fr h₀ L hp m) (N : News h₀ L hp news) (hd : dp + need < recursionLimit) (hu : un + 8 * need < cLine)
    (ret : ∀ r h' tk', Fr h₀ L h' m → News h₀ L h' news → Post r → Q r ⟨h', gn, dr, tk', os⟩) :
    wpAny (model prog w) A (call (.ref f) vs) Q E ⟨hp, gn, dr, tk, os⟩ := C _ _ _ _ _ _ _ _ _ _ _ _ _ S₀ F N hd hu ret

/-- what a call of the def at f gives, from whatever frame of a def: the ledger that it leaves is told -/
noncomputable def FnX (prog : Program) (w : World) (need : Nat) (f : Addr) (vs : List Value) (news : Led) (Post : Value → Led → Prop) : Prop :=
  ∀ (A : Around) (dp un : Nat) (h₀ : Heap) (L : Addr) (m : Str → Option Value) (hp : Heap) (gn : Array GenState) (dr : Drawn) (tk : Nat) (os : OsState)
    (Q E : Value → Shared → Prop),
    Site w A dp un h₀ L → Fr h₀ L hp m → News h₀ L hp news → dp + need < recursionLimit → un + 8 * need < cLine →
    (∀ r news' h' tk', Fr h₀ L h' m → News h₀ L h' news' → Post r news' → Q r ⟨h', gn, dr, tk', os⟩) →
    wpAny (model prog w) A (call (.ref f) vs) Q E ⟨hp, gn, dr, tk, os⟩

theorem FnX.use {prog : Program} {w : World} {need : Nat} {f : Addr} {vs : List Value} {news : Led} {Post : Value → Led → Prop} (C : FnX prog w need f vs news Post)
    {A : Around} {dp un : Nat} {h₀ : Heap} {L : Addr} {m : Str → Option Value} {hp : Heap} {gn : Array GenState} {dr : Drawn} {tk : Nat} {os : OsState}
    {Q E : Value → Shared → Prop} (S₀ : Site w A dp un h₀ L) (F : Fr h₀ L hp m) (N : News h₀ L hp news) (hd : dp + need < recursionLimit) (hu : un + 8 * need < cLine)
    (ret : ∀ r news' h' tk', Fr h₀ L h' m → News h₀ L h' news' → Post r news' → Q r ⟨h', gn, dr, tk', os⟩) :
    wpAny (model prog w) A (call (.ref f) vs) Q E ⟨hp, gn, dr, tk, os⟩ := C _ _ _ _ _ _ _ _ _ _ _ _ _ S₀ F N hd hu ret

noncomputable abbrev tupObj (vs : List Value) : Obj := { cls := .type "tuple", data := .seq vs.toArray }
noncomputable abbrev lstObj (vs : List Value) : Obj := { cls := .type "list", data := .seq vs.toArray }

/-- the same for a def that changes the store of nodes (S), all else (R) kept -/
noncomputable def FnM (prog : Program) (w : World) (need : Nat) (f : Addr) (vs : List Value) (R S : Led) (tr dtr : Addr) (σ' : St) (Post : Value → Prop) : Prop :=
  ∀ (A : Around) (dp un : Nat) (h₀ : Heap) (L : Addr) (m : Str → Option Value) (hp : Heap) (gn : Array GenState) (dr : Drawn) (tk : Nat) (os : OsState)
    (Q E : Value → Shared → Prop),
    Site w A dp un h₀ L → Fr h₀ L hp m → News h₀ L hp (R ++ S) → dp + need < recursionLimit → un + 8 * need < cLine →
    (∀ r S' h' tk', Fr h₀ L h' m → News h₀ L h' (R ++ S') → S'.map (·.1) = S.map (·.1) → Dj R S' → Rep w.params tr dtr S' σ' → Post r → Q r ⟨h', gn, dr, tk', os⟩) →
    wpAny (model prog w) A (call (.ref f) vs) Q E ⟨hp, gn, dr, tk, os⟩

theorem FnM.use {prog : Program} {w : World} {need : Nat} {f : Addr} {vs : List Value} {R S : Led} {tr dtr : Addr} {σ' : St} {Post : Value → Prop} (C : FnM prog w need f vs R S tr dtr σ' Post)
    {A : Around} {dp un : Nat} {h₀ : Heap} {L : Addr} {m : Str → Option Value} {hp : Heap} {gn : Array GenState} {dr : Drawn} {tk : Nat} {os : OsState}
    {Q E : Value → Shared → Prop} (S₀ : Site w A dp un h₀ L) (F : Fr h₀ L hp m) (N : News h₀ L hp (R ++ S)) (hd : dp + need < recursionLimit) (hu : un + 8 * need < cLine)
    (ret : ∀ r S' h' tk', Fr h₀ L h' m → News h₀ L h' (R ++ S') → S'.map (·.1) = S.map (·.1) → Dj R S' → Rep w.params tr dtr S' σ' → Post r → Q r ⟨h', gn, dr, tk', os⟩) :
    wpAny (model prog w) A (call (.ref f) vs) Q E ⟨hp, gn, dr, tk, os⟩ := C _ _ _ _ _ _ _ _ _ _ _ _ _ S₀ F N hd hu ret

theorem FnR.useV {prog : Program} {w : World} {need : Nat} {f : Addr} {vs : List Value} {news : Led} {v : Value} (C : FnR prog w need f vs news (fun r => r = v))
    {A : Around} {dp un : Nat} {h₀ : Heap} {L : Addr} {m : Str → Option Value} {hp : Heap} {gn : Array GenState} {dr : Drawn} {tk : Nat} {os : OsState}
    {Q E : Value → Shared → Prop} (S₀ : Site w A dp un h₀ L) (F : Fr h₀ L hp m) (N : News h₀ L hp news) (hd : dp + need < recursionLimit) (hu : un + 8 * need < cLine)
    (ret : ∀ h' tk', Fr h₀ L h' m → News h₀ L h' news → Q v ⟨h', gn, dr, tk', os⟩) :
    wpAny (model prog w) A (call (.ref f) vs) Q E ⟨hp, gn, dr, tk, os⟩ :=
  FnR.use C S₀ F N hd hu (fun r h' tk' F N e => by subst e; exact ret h' tk' F N)
theorem FnR.useI {prog : Program} {w : World} {need : Nat} {f : Addr} {vs : List Value} {news : Led} {k : Int} (C : FnR prog w need f vs news (fun r => ∃ t, r = .int k t))
    {A : Around} {dp un : Nat} {h₀ : Heap} {L : Addr} {m : Str → Option Value} {hp : Heap} {gn : Array GenState} {dr : Drawn} {tk : Nat} {os : OsState}
    {Q E : Value → Shared → Prop} (S₀ : Site w A dp un h₀ L) (F : Fr h₀ L hp m) (N : News h₀ L hp news) (hd : dp + need < recursionLimit) (hu : un + 8 * need < cLine)
    (ret : ∀ h' tk', Fr h₀ L h' m → News h₀ L h' news → ∀ t, Q (.int k t) ⟨h', gn, dr, tk', os⟩) :
    wpAny (model prog w) A (call (.ref f) vs) Q E ⟨hp, gn, dr, tk, os⟩ :=
  FnR.use C S₀ F N hd hu (fun r h' tk' F N e => by obtain ⟨t, e⟩ := e; subst e; exact ret h' tk' F N t)
theorem FnM.useV {prog : Program} {w : World} {need : Nat} {f : Addr} {vs : List Value} {R S : Led} {tr dtr : Addr} {σ' : St} {v : Value} (C : FnM prog w need f vs R S tr dtr σ' (fun r => r = v))
    {A : Around} {dp un : Nat} {h₀ : Heap} {L : Addr} {m : Str → Option Value} {hp : Heap} {gn : Array GenState} {dr : Drawn} {tk : Nat} {os : OsState}
    {Q E : Value → Shared → Prop} (S₀ : Site w A dp un h₀ L) (F : Fr h₀ L hp m) (N : News h₀ L hp (R ++ S)) (hd : dp + need < recursionLimit) (hu : un + 8 * need < cLine)
    (ret : ∀ S' h' tk', Fr h₀ L h' m → News h₀ L h' (R ++ S') → S'.map (·.1) = S.map (·.1) → Dj R S' → Rep w.params tr dtr S' σ' → Q v ⟨h', gn, dr, tk', os⟩) :
    wpAny (model prog w) A (call (.ref f) vs) Q E ⟨hp, gn, dr, tk, os⟩ :=
  FnM.use C S₀ F N hd hu (fun r S' h' tk' F N a j G e => by subst e; exact ret S' h' tk' F N a j G)

theorem FnR.intro {prog : Program} {w : World} {need : Nat} {f : Addr} {vs : List Value} {news : Led} {Post : Value → Prop}
    (C : ∀ (p : Program) (loose : List Str) (mean : ExcName → Option Value) (mg mb : Str → Option Value) (dp un : Nat) (gd : Option (List Code)) (cn : Str) (cs : Scope) (a : Addr) (ccd : Value) (cl : List (Str × Addr)) (outer : List Env) (A₀ : Around) (base h₀ : Heap) (L : Addr) (m : Str → Option Value) (hp : Heap) (gn : Array GenState) (dr : Drawn) (tk : Nat) (os : OsState)
      (Q E : Value → Shared → Prop), Below A₀ base outer h₀ → (Mine.K0 w.params).In h₀ → Top p loose mean mg mb h₀ → cs.kind = .function → Fr h₀ L hp m → News h₀ L hp news → dp + need < recursionLimit → un + 8 * need < cLine →
      (∀ r h' tk', Fr h₀ L h' m → News h₀ L h' news → Post r → Q r ⟨h', gn, dr, tk', os⟩) → wpAny (model prog w) (ktrTop dp un gd cn cs L a ccd cl outer) (call (.ref f) vs) Q E ⟨hp, gn, dr, tk, os⟩) : FnR prog w need f vs news Post := by
  intro A dp un h₀ L m hp gn dr tk os Q E S F N hd hu ret
  cases S with
  | mk B X T hk => exact C _ _ _ _ _ _ _ _ _ _ _ _ _ _ _ _ _ _ _ _ _ _ _ _ _ _ B X T hk F N hd hu ret
theorem FnX.intro {prog : Program} {w : World} {need : Nat} {f : Addr} {vs : List Value} {news : Led} {Post : Value → Led → Prop}
    (C : ∀ (p : Program) (loose : List Str) (mean : ExcName → Option Value) (mg mb : Str → Option Value) (dp un : Nat) (gd : Option (List Code)) (cn : Str) (cs : Scope) (a : Addr) (ccd : Value) (cl : List (Str × Addr)) (outer : List Env) (A₀ : Around) (base h₀ : Heap) (L : Addr) (m : Str → Option Value) (hp : Heap) (gn : Array GenState) (dr : Drawn) (tk : Nat) (os : OsState)
      (Q E : Value → Shared → Prop), Below A₀ base outer h₀ → (Mine.K0 w.params).In h₀ → Top p loose mean mg mb h₀ → cs.kind = .function → Fr h₀ L hp m → News h₀ L hp news → dp + need < recursionLimit → un + 8 * need < cLine →
      (∀ r news' h' tk', Fr h₀ L h' m → News h₀ L h' news' → Post r news' → Q r ⟨h', gn, dr, tk', os⟩) → wpAny (model prog w) (ktrTop dp un gd cn cs L a ccd cl outer) (call (.ref f) vs) Q E ⟨hp, gn, dr, tk, os⟩) : FnX prog w need f vs news Post := by
  intro A dp un h₀ L m hp gn dr tk os Q E S F N hd hu ret
  cases S with
  | mk B X T hk => exact C _ _ _ _ _ _ _ _ _ _ _ _ _ _ _ _ _ _ _ _ _ _ _ _ _ _ B X T hk F N hd hu ret
theorem FnM.intro {prog : Program} {w : World} {need : Nat} {f : Addr} {vs : List Value} {R S : Led} {tr dtr : Addr} {σ' : St} {Post : Value → Prop}
    (C : ∀ (p : Program) (loose : List Str) (mean : ExcName → Option Value) (mg mb : Str → Option Value) (dp un : Nat) (gd : Option (List Code)) (cn : Str) (cs : Scope) (a : Addr) (ccd : Value) (cl : List (Str × Addr)) (outer : List Env) (A₀ : Around) (base h₀ : Heap) (L : Addr) (m : Str → Option Value) (hp : Heap) (gn : Array GenState) (dr : Drawn) (tk : Nat) (os : OsState)
      (Q E : Value → Shared → Prop), Below A₀ base outer h₀ → (Mine.K0 w.params).In h₀ → Top p loose mean mg mb h₀ → cs.kind = .function → Fr h₀ L hp m → News h₀ L hp (R ++ S) → dp + need < recursionLimit → un + 8 * need < cLine →
      (∀ r S' h' tk', Fr h₀ L h' m → News h₀ L h' (R ++ S') → S'.map (·.1) = S.map (·.1) → Dj R S' → Rep w.params tr dtr S' σ' → Post r → Q r ⟨h', gn, dr, tk', os⟩) → wpAny (model prog w) (ktrTop dp un gd cn cs L a ccd cl outer) (call (.ref f) vs) Q E ⟨hp, gn, dr, tk, os⟩) : FnM prog w need f vs R S tr dtr σ' Post := by
  intro A dp un h₀ L m hp gn dr tk os Q E S F N hd hu ret
  cases S with
  | mk B X T hk => exact C _ _ _ _ _ _ _ _ _ _ _ _ _ _ _ _ _ _ _ _ _ _ _ _ _ _ B X T hk F N hd hu ret
theorem FnX.useT {prog : Program} {w : World} {need : Nat} {f : Addr} {vs : List Value} {news : Led} {x : Addr} {b : Int} (C : FnX prog w need f vs news (fun v news' => ∃ q t, v = .ref q ∧ news' = (q, tupObj [.ref x, .int b t]) :: news ∧ AllLt q news))
    {A : Around} {dp un : Nat} {h₀ : Heap} {L : Addr} {m : Str → Option Value} {hp : Heap} {gn : Array GenState} {dr : Drawn} {tk : Nat} {os : OsState} {Q E : Value → Shared → Prop} (S₀ : Site w A dp un h₀ L) (F : Fr h₀ L hp m) (N : News h₀ L hp news) (hd : dp + need < recursionLimit) (hu : un + 8 * need < cLine)
    (ret : ∀ q t h' tk', Fr h₀ L h' m → News h₀ L h' ((q, tupObj [.ref x, .int b t]) :: news) → AllLt q news → Q (.ref q) ⟨h', gn, dr, tk', os⟩) : wpAny (model prog w) A (call (.ref f) vs) Q E ⟨hp, gn, dr, tk, os⟩ :=
  FnX.use C S₀ F N hd hu (fun r news' h' tk' F N po => by obtain ⟨q, t, rfl, rfl, hl⟩ := po; exact ret q t h' tk' F N hl)
theorem is_nodes {M : Model} {A : Around} {E : Value → Shared → Prop} {s : Shared} {h₀ : Heap} {L x y : Addr} {news : Led} {P : Params} {nx ny : Node} {Q : Value → Shared → Prop} (N : News h₀ L s.heap news) (hx : HasNode P news x nx) (hy : HasNode P news y ny) (ne : x ≠ y)
    (h : Q (.bool false) s) : wpAny M A (compareOp .Is (.ref x) (.ref y)) Q E s :=
  wpAny_is_ref_other ne (N _ hx.inst).1 (N _ hy.inst).1 (by intro z; cases z) h

/-- the walk stands here -/
noncomputable def Stop (P : Prop) : Prop := P
theorem whl_stop {prog : Program} {w : World} {A : Around} {E : Value → Shared → Prop} {s : Shared} {env : Env} {test : PySem.Expr} {body orelse : List Stmt} {Q : Flow → Shared → Prop} {pos : Pos} (h : Stop (WhlRest prog w A E env test body orelse Q 0 s)) :
    wpAny (model prog w) A (exec (.While test body orelse pos) env) Q E s := whl_start 0 h

/-- a while by an invariant that a number falls under -/
noncomputable def LoopPost (I : Nat → Shared → Prop) (Q : Flow → Shared → Prop) (k : Nat) (f : Flow) (s : Shared) : Prop := match f with
  | .next => ∃ k', k' < k ∧ I k' s
  | .cont => ∃ k', k' < k ∧ I k' s
  | .brk => Q .next s
  | .ret v => Q (.ret v) s

theorem whl_inv {prog : Program} {w : World} {A : Around} {env : Env} {test : PySem.Expr} {body orelse : List Stmt} {Q : Flow → Shared → Prop} {j : Nat} (I : Nat → Shared → Prop)
    (turn : ∀ k s, I k s → wpAny (model prog w) A (isTrue test env (eval test env)) (fun b s₂ => WhlIf b (wpAny (model prog w) A (execs body env) (LoopPost I Q k) (fun _ _ => False) s₂) (wpAny (model prog w) A (execs orelse env) Q (fun _ _ => False) s₂)) (fun _ _ => False) s)
    (k : Nat) {s : Shared} (h : I k s) : Stop (WhlRest prog w A (fun _ _ => False) env test body orelse Q j s) := by
  unfold Stop
  induction k using Nat.strongRecOn generalizing s with
  | ind k ih =>
    refine whl_turn (k := 0) PassesOwn.never (wpAny_mono (turn k s h) (fun b s₂ h₂ => ?_) fun _ _ x => x)
    unfold WhlIf at h₂ ⊢
    split
    · rename_i hb
      rw [if_pos hb] at h₂
      refine wpAny_mono h₂ (fun f s₃ h₃ => ?_) fun _ _ x => x
      cases f with
      | next => obtain ⟨k', a, b⟩ := h₃; exact ih k' a b
      | cont => obtain ⟨k', a, b⟩ := h₃; exact ih k' a b
      | brk => exact h₃
      | ret v => exact h₃
    · rename_i hb
      rw [if_neg hb] at h₂
      exact h₂


/-- a while by an invariant over the locals and the ledger -/
noncomputable def LoopJ (h₀ : Heap) (L : Addr) (J : Nat → (Str → Option Value) → Led → Prop) (Q : Flow → Shared → Prop) (gn : Array GenState) (dr : Drawn) (os : OsState) (k : Nat) (f : Flow) (s₃ : Shared) : Prop := match f with
  | .next => ∃ k' h tk m nx, k' < k ∧ s₃ = ⟨h, gn, dr, tk, os⟩ ∧ Fr h₀ L h m ∧ News h₀ L h nx ∧ J k' m nx
  | .cont => ∃ k' h tk m nx, k' < k ∧ s₃ = ⟨h, gn, dr, tk, os⟩ ∧ Fr h₀ L h m ∧ News h₀ L h nx ∧ J k' m nx
  | .brk => Q .next s₃
  | .ret v => Q (.ret v) s₃
section
variable {h₀ : Heap} {L : Addr} {J : Nat → (Str → Option Value) → Led → Prop} {Q : Flow → Shared → Prop} {gn : Array GenState} {dr : Drawn} {os : OsState} {k k' : Nat} {h : Heap} {tk : Tok} {m : Str → Option Value} {nx : Led} {v : Value}
theorem LoopJ.again (F : Fr h₀ L h m) (N : News h₀ L h nx) (lt : k' < k) (j : J k' m nx) : LoopJ h₀ L J Q gn dr os k .next ⟨h, gn, dr, tk, os⟩ := ⟨k', h, tk, m, nx, lt, rfl, F, N, j⟩
theorem LoopJ.cont (F : Fr h₀ L h m) (N : News h₀ L h nx) (lt : k' < k) (j : J k' m nx) : LoopJ h₀ L J Q gn dr os k .cont ⟨h, gn, dr, tk, os⟩ := ⟨k', h, tk, m, nx, lt, rfl, F, N, j⟩
theorem loopJ_ret {s₃ : Shared} (h : Q (.ret v) s₃) : LoopJ h₀ L J Q gn dr os k (.ret v) s₃ := h
theorem loopJ_brk {s₃ : Shared} (h : Q .next s₃) : LoopJ h₀ L J Q gn dr os k .brk s₃ := h
end
theorem whl_J {prog : Program} {w : World} {A : Around} {env : Env} {test : PySem.Expr} {body orelse : List Stmt} {Q : Flow → Shared → Prop} {j : Nat} {h₀ : Heap} {L : Addr} {m₀ : Str → Option Value} {nx₀ : Led} {hp : Heap} {gn : Array GenState} {dr : Drawn} {os : OsState} {tk₀ : Nat}
    (J : Nat → (Str → Option Value) → Led → Prop) (F : Fr h₀ L hp m₀) (N : News h₀ L hp nx₀) (k : Nat) (i : J k m₀ nx₀)
    (turn : let P := LoopJ h₀ L J Q gn dr os; ∀ k m nx h tk (G : Prop), (wpAny (model prog w) A (isTrue test env (eval test env)) (fun b s₂ => WhlIf b (wpAny (model prog w) A (execs body env) (P k) (fun _ _ => False) s₂) (wpAny (model prog w) A (execs orelse env) Q (fun _ _ => False) s₂)) (fun _ _ => False) ⟨h, gn, dr, tk, os⟩ → G) → J k m nx → Fr h₀ L h m → News h₀ L h nx → G) :
    Stop (WhlRest prog w A (fun _ _ => False) env test body orelse Q j ⟨hp, gn, dr, tk₀, os⟩) := by
  refine whl_inv (fun k s₁ => ∃ h tk m nx, s₁ = ⟨h, gn, dr, tk, os⟩ ∧ Fr h₀ L h m ∧ News h₀ L h nx ∧ J k m nx) ?_ k ⟨hp, tk₀, m₀, nx₀, rfl, F, N, i⟩
  rintro k s₁ ⟨h, tk, m, nx, rfl, F, N, i⟩
  refine wpAny_mono (turn k m nx h tk _ id i F N) (fun b s₂ h₂ => ?_) (fun _ _ x => x)
  unfold WhlIf at h₂ ⊢
  split
  · rename_i hb
    rw [if_pos hb] at h₂
    refine wpAny_mono h₂ (fun f s₃ h₃ => ?_) (fun _ _ x => x)
    cases f with
    | next => obtain ⟨k', h, tk, m, nx, lt, e, F, N, i⟩ := h₃; exact ⟨k', lt, h, tk, m, nx, e, F, N, i⟩
    | cont => obtain ⟨k', h, tk, m, nx, lt, e, F, N, i⟩ := h₃; exact ⟨k', lt, h, tk, m, nx, e, F, N, i⟩
    | brk => exact h₃
    | ret v => exact h₃
  · rename_i hb
    rw [if_neg hb] at h₂
    exact h₂

theorem loopPost_ret {I : Nat → Shared → Prop} {Q : Flow → Shared → Prop} {k : Nat} {v : Value} {s : Shared} (h : Q (.ret v) s) : LoopPost I Q k (.ret v) s := h
theorem loopPost_brk {I : Nat → Shared → Prop} {Q : Flow → Shared → Prop} {k : Nat} {s : Shared} (h : Q .next s) : LoopPost I Q k .brk s := h

section cont
variable {M : Model} {A : Around} {env : Env} {st : Stmt} {rest : List Stmt} {Q : Flow → Shared → Prop} {E : Value → Shared → Prop} {s : Shared} {v : Value}
/-- the rest of a block as a word of its own: small terms -/
noncomputable def KQ (M : Model) (A : Around) (rest : List Stmt) (env : Env) (Q : Flow → Shared → Prop) (E : Value → Shared → Prop) (f : Flow) (s : Shared) : Prop := match f with
  | .next => wpAny M A (execs rest env) Q E s
  | x => Q x s
theorem kq_cons (h : wpAny M A (exec st env) (KQ M A rest env Q E) E s) : wpAny M A (execs (st :: rest) env) Q E s :=
  wpAny_execs_cons (wpAny_mono h (fun f s' h' => by cases f <;> exact h') (fun _ _ x => x))
theorem kq_next (h : wpAny M A (execs rest env) Q E s) : KQ M A rest env Q E .next s := h
theorem kq_ret (h : Q (.ret v) s) : KQ M A rest env Q E (.ret v) s := h
theorem kq_brk (h : Q .brk s) : KQ M A rest env Q E .brk s := h
theorem kq_cont (h : Q .cont s) : KQ M A rest env Q E .cont s := h
theorem ite_stop {c : Prop} [Decidable c] {a b : Prop} (h : Stop (if c then a else b)) : if c then a else b := h
theorem stop_pos {c : Prop} [Decidable c] {a b : Prop} (hc : c) (h : a) : Stop (if c then a else b) := ite_pos hc h
theorem stop_neg {c : Prop} [Decidable c] {a b : Prop} (hc : ¬ c) (h : b) : Stop (if c then a else b) := ite_neg hc h
theorem stop_lt {a b : Prop} {p : Prop} [Decidable p] (hc : p) (h : a) : Stop (if decide p = true then a else b) := ite_pos (decide_eq_true hc) h
theorem stop_nlt {a b : Prop} {p : Prop} [Decidable p] (hc : ¬ p) (h : b) : Stop (if decide p = true then a else b) := ite_neg (fun x => hc (of_decide_eq_true x)) h
theorem ne_tr {c : Bool} (e : c = false) : ¬ c = true := by simp [e]
theorem stop_eq {a b : Prop} {x y : Int} (e : x = y) (h : a) : Stop (if (x == y) = true then a else b) := ite_pos (by simp [e]) h
theorem stop_ne {a b : Prop} {x y : Int} (e : ¬ x = y) (h : b) : Stop (if (x == y) = true then a else b) := ite_neg (by simp [e]) h
theorem stop_is {a b : Prop} {c : Bool} (e : c = true) (h : a) : Stop (if c = true then a else b) := ite_pos e h
theorem stop_not {a b : Prop} {c : Bool} (e : c = false) (h : b) : Stop (if c = true then a else b) := ite_neg (by simp [e]) h
/-- after an if without an else, both ways come together -/
noncomputable def JoinP (h₀ : Heap) (L : Addr) (J : (Str → Option Value) → Led → Prop) (gn : Array GenState) (dr : Drawn) (os : OsState) (f : Flow) (s₃ : Shared) : Prop := f = .next ∧ ∃ h tk m nx, s₃ = ⟨h, gn, dr, tk, os⟩ ∧ Fr h₀ L h m ∧ News h₀ L h nx ∧ J m nx
theorem JoinP.intro {h₀ h : Heap} {L : Addr} {J : (Str → Option Value) → Led → Prop} {gn : Array GenState} {dr : Drawn} {os : OsState} {tk : Nat} {m : Str → Option Value} {nx : Led} (F : Fr h₀ L h m) (N : News h₀ L h nx) (j : J m nx) : JoinP h₀ L J gn dr os .next ⟨h, gn, dr, tk, os⟩ := ⟨rfl, h, tk, m, nx, rfl, F, N, j⟩
theorem ite_join {c : Prop} [Decidable c] {h₀ hp : Heap} {L : Addr} {gn : Array GenState} {dr : Drawn} {os : OsState} {tk : Nat} {b1 b2 : List Stmt} {m₀ : Str → Option Value} (_F : Fr h₀ L hp m₀) (J : (Str → Option Value) → (Str → Option Value) → Led → Prop)
    (now : let P := JoinP h₀ L (J m₀) gn dr os; Stop (if c then wpAny M A (execs b1 env) P E ⟨hp, gn, dr, tk, os⟩ else wpAny M A (execs b2 env) P E ⟨hp, gn, dr, tk, os⟩))
    (rest : ∀ h tk m nx (G : Prop), (Q .next ⟨h, gn, dr, tk, os⟩ → G) → J m₀ m nx → Fr h₀ L h m → News h₀ L h nx → G) : Stop (if c then wpAny M A (execs b1 env) Q E ⟨hp, gn, dr, tk, os⟩ else wpAny M A (execs b2 env) Q E ⟨hp, gn, dr, tk, os⟩) := by
  have fin : ∀ f s₃, JoinP h₀ L (J m₀) gn dr os f s₃ → Q f s₃ := by
    rintro f s₃ ⟨rfl, h, tk, m, nx, rfl, F, N, j⟩
    exact rest h tk m nx _ id j F N
  unfold Stop at now ⊢
  split at now
  · rename_i hc
    rw [if_pos hc]
    exact wpAny_mono now fin fun _ _ e => e
  · rename_i hc
    rw [if_neg hc]
    exact wpAny_mono now fin fun _ _ e => e
theorem is_none_optV {o : Option Addr} {Q : Value → Shared → Prop} {E : Value → Shared → Prop} (h : Q (.bool o.isNone) s) : wpAny M A (compareOp .Is (optV o) .none) Q E s := by
  cases o with
  | none => exact PyProof.Rows.is_none_none h
  | some a => exact PyProof.Rows.is_ref_none h
theorem isnot_none_optV {o : Option Addr} {Q : Value → Shared → Prop} {E : Value → Shared → Prop} (h : Q (.bool o.isSome) s) : wpAny M A (compareOp .IsNot (optV o) .none) Q E s := by
  cases o with
  | none => exact PyProof.Rows.isnot_none_none h
  | some a => exact PyProof.Rows.isnot_ref_none h
theorem is_none_none_ref {a : Addr} {Q : Value → Shared → Prop} {E : Value → Shared → Prop} (h : Q (.bool false) s) : wpAny M A (compareOp .Is .none (.ref a)) Q E s := by
  walk1
  exact h
theorem is_optV_node {P : Params} {h₀ : Heap} {L a : Addr} {news : Led} {o : Option Addr} {n : Node} {Q : Value → Shared → Prop} {E : Value → Shared → Prop} (N : News h₀ L s.heap news) (ha : HasNode P news a n) (hx : ∀ x, o = some x → ∃ nx, HasNode P news x nx) (h : Q (.bool (decide (o = some a))) s) : wpAny M A (compareOp .Is (optV o) (.ref a)) Q E s := by
  cases o with
  | none => exact is_none_none_ref (by simpa using h)
  | some x =>
    by_cases e : x = a
    · subst e; exact wpAny_is_ref_self (by simpa using h)
    · obtain ⟨nx, hx⟩ := hx x rfl
      exact is_nodes N hx ha e (by simpa [e] using h)
theorem fold_A {B : Around} (h : let en := env; let ak := B.deeper en; ak.units = B.units + 3 → wpAny M ak (execs rest en) Q E s) : wpAny M (B.deeper env) (execs rest env) Q E s := h rfl
end cont

/-- a def is entered; its body raises nothing -/
theorem enter {prog : Program} {w : World} {A A₀ : Around} {s : Shared} {K : Frag} {L : Addr} {h₀ base : Heap} {m mg mb : Str → Option Value} {news : List (Addr × Obj)} {p : Program} {loose : List Str} {mean : ExcName → Option Value}
    {env : Env} {outer : List Env} {Q E : Value → Shared → Prop} {name qual : Str} {params : Arguments} {body : List Stmt} {scope : Scope} {dV kV doc pm cdv ct oc : Value} {body' : List Stmt} {scope' : Scope} {an od : Option Addr} {osl : Array (Option Value)} {f : Addr} {args : List Value} (binds : List (Str × Value))
    (B : Below A₀ base outer h₀) (F : Fr h₀ L s.heap m) (X₀ : K.In h₀) (N : News h₀ L s.heap news) (T : Top p loose mean mg mb h₀) (hA : A.frames = some (env :: outer)) (hf : env.frame = some L) (hke : env.scope.kind = .function)
    (ho : K.lookup f = some ⟨oc, od, .func (fnOf name qual params body scope dV kV doc pm an cdv ct), osl⟩) (hcd : codeIn K cdv qual = true) (hb : body = body') (hs : scope = scope') (hroom : A.depth < recursionLimit)
    (hbind : BindsTo s (fnOf name qual params body scope dV kV doc pm an cdv ct) ⟨args, []⟩ binds) (hloc : ∀ y ∈ binds, scope'.names.lookup y.1 = some .local)
    (h : ∀ g L' h₁, Fr h₀ L g m → Fr g L' h₁ (fun y => binds.reverse.lookup y) → News g L' h₁ news → Below A base (env :: outer) g → K.In g → Top p loose mean mg mb g →
      wpAny (model prog w) (A.deeper (envOf qual scope' L' f cdv)) (execs body' (envOf qual scope' L' f cdv))
        (fun fl s' => LeaveK h₀ L m g (fun r s' => match r with | .ok (.ret v) => Q v s' | .ok _ => False | .error e => E e s') (match fl with | .ret v => v | _ => .none) s')
        (fun _ _ => False)
        { s with heap := h₁, toks := s.toks + binds.length })
    (hco : scope'.isCoroutine = false) (hgen : scope'.isGenerator = false) (hk : scope'.kind = .function)
    (hcell : ∀ x ∈ scope'.names, x.2 ≠ .cell) : wpAny (model prog w) A (call (.ref f) args) Q E s := by
  subst hb hs
  exact wpAny_call (code_def B F X₀ N T hA hf hke ho hcd hroom hbind hloc (fun g L' h₁ a b c d e f => wpAny_mono (h g L' h₁ a b c d e f) (fun _ _ x => x) (fun _ _ x => x.elim)) hco hgen hk hcell)
section lists
variable {prog : Program} {w : World} {A : Around} {E : Value → Shared → Prop} {s : Shared} {h₀ : Heap} {L D b : Addr} {m : Str → Option Value} {news news' : Led} {n n2 : Nat} {p q : List Value} {y : Value} {Q : Value → Shared → Prop}
theorem my_pop (F : Fr h₀ L s.heap m) (N : News h₀ L s.heap news) (U : Upd D (listOf (p ++ [y]).toArray n) (listOf p.toArray (n + 1)) news news') (hz : p.length ≤ 4000000)
    (h : ∀ h', Fr h₀ L h' m → News h₀ L h' news' → Q y { s with heap := h' }) : wpAny (model prog w) A (call (.builtin "list.pop") [.ref D]) Q E s :=
  kl_pop F N (kpa_last y p) U (by rw [sizeLine_eq]; simp; (first | lia | omega)) h
theorem my_extend (F : Fr h₀ L s.heap m) (N : News h₀ L s.heap news) (hb : (b, listOf q.toArray n2) ∈ news) (hne : q ≠ []) (U : Upd D (listOf p.toArray n) (listOf (p ++ q).toArray (n + 1)) news news') (hz : p.length + q.length ≤ 4000000)
    (h : ∀ h', Fr h₀ L h' m → News h₀ L h' news' → Q .none { s with heap := h' }) : wpAny (model prog w) A (call (.builtin "list.extend") [.ref D, .ref b]) Q E s :=
  kl_extend F N hb (by simp) (by simpa using hne) U (by
    intro hx
    have h2 := (Bool.and_eq_true_iff.mp hx).2
    unfold Builtin.List.listTooLong at h2
    have h3 := of_decide_eq_true h2
    rw [sizeLine_eq, List.size_toArray, List.size_toArray] at h3
    (first | lia | omega)) (by rw [sizeLine_eq]; simp; (first | lia | omega)) (by rw [sizeLine_eq]; simp; (first | lia | omega)) h
theorem my_len {k : Nat} (N : News h₀ L s.heap news) (hm : (D, listOf p.toArray n) ∈ news) (hk : p.length = k) (hz : k ≤ 4000000)
    (h : ∀ t, Q (.int k t) { s with toks := s.toks + 1 + 1 }) : wpAny (model prog w) A (call (.builtin "len") [.ref D]) Q E s :=
  call_len_list (News.isList N hm) (by simp; (first | lia | omega)) (by simpa [hk] using h (s.toks + 1))
end lists
theorem allLt_addr {q : Addr} {R S S' : Led} (e : S'.map (·.1) = S.map (·.1)) (h : AllLt q (R ++ S)) : AllLt q (R ++ S') := by
  have one : ∀ l : Led, AllLt q l ↔ ∀ a ∈ l.map (·.1), a < q := by
    intro l
    induction l with
    | nil => exact ⟨fun _ a ha => (by cases ha), fun _ => trivial⟩
    | cons c l ih =>
      constructor
      · intro h a ha
        rcases List.mem_cons.mp ha with rfl | ha
        · exact h.1
        · exact ih.mp h.2 a ha
      · intro h
        exact ⟨h _ (List.mem_cons_self ..), ih.mpr fun a ha => h a (List.mem_cons_of_mem _ ha)⟩
  rw [one, List.map_append] at h ⊢
  rw [e]
  exact h
theorem Dj.tail {R S : Led} {c : Addr × Obj} (j : Dj (c :: R) S) : Dj R S := fun p hp => j p (List.mem_cons_of_mem _ hp)
theorem allLt_ne {q : Addr} {l : Led} (h : AllLt q l) : ∀ p ∈ l, p.1 ≠ q := by
  induction l with
  | nil => intro p hp; cases hp
  | cons c l ih =>
    intro p hp
    rcases List.mem_cons.mp hp with rfl | hp
    · exact Nat.ne_of_lt h.1
    · exact ih h.2 p hp
end TM0

section TLA
open PySem PySem.W PyProof.Rows PySem.Calls PySem.Spec
set_option maxRecDepth 100000
set_option maxHeartbeats 4000000
noncomputable def bodyAt (P : PySem.Params) (f : Addr) : List Stmt := match (Mine.K0 P).lookup f with
  | some o => (match o.data with
    | .func f => (match f.body with | .stmts b => b | _ => [])
    | _ => [])
  | none => []
noncomputable def scopeAt (P : PySem.Params) (f : Addr) : PySem.Scope := match (Mine.K0 P).lookup f with
  | some o => (match o.data with
    | .func f => f.scope
    | _ => default)
  | none => default
/-- the law's statements from number k on -/
noncomputable def lawRest (P : PySem.Params) (k : Nat) : List Stmt := (bodyAt P 543).drop k
theorem stop_any {P : Prop} (h : Stop P) : P := h
theorem fold_st {M : Model} {B : Around} {env : Env} {st : Stmt} {Q : Flow → Shared → Prop} {E : Value → Shared → Prop} {s : Shared} (h : let en := env; let ak := B.deeper en; wpAny M ak (exec st en) Q E s) : wpAny M (B.deeper env) (exec st env) Q E s := h
theorem fold_sts {M : Model} {B : Around} {env : Env} {st : List Stmt} {Q : Flow → Shared → Prop} {E : Value → Shared → Prop} {s : Shared} (h : let en := env; let ak := B.deeper en; wpAny M ak (execs st en) Q E s) : wpAny M (B.deeper env) (execs st env) Q E s := h
end TLA

section TLB
open PySem PySem.W PyProof.Rows PySem.Calls PySem.Spec
set_option maxRecDepth 100000
set_option maxHeartbeats 8000000
/-- the body of the law's loop -/
noncomputable def turnBody (P : PySem.Params) : List Stmt := match lawRest P 8 with
  | .For _ _ body _ _ :: _ => body
  | _ => []
/-- one statement of it -/
noncomputable def turnSt (P : PySem.Params) (k : Nat) : Stmt := match (turnBody P).drop k with
  | st :: _ => st
  | [] => .Pass default
end TLB

section TL0
open PySem PySem.W PyProof.Rows PySem.Calls PySem.Spec
set_option maxRecDepth 100000
set_option maxHeartbeats 2000000

section
variable {prog : Program} {w : World} {A : Around} {E : Value → Shared → Prop} {s : Shared} {h₀ : Heap} {L D b : Addr} {m : Str → Option Value} {news news' : Led} {n n2 : Nat} {p q : List Value} {y : Value} {Q : Value → Shared → Prop} {value slice : Expr} {i : Int} {u : Tok}
theorem my_item (N : News h₀ L s.heap news) (hm : (D, listOf p.toArray n) ∈ news) (h0 : 0 ≤ i) (h1 : i < 2 ^ 63) (hx : p[i.toNat]? = some y) (h : Q y s)
    (hs : subscripted slice false (.ref D) (.int i u) = operate [.ref D, .int i u] (getItem (.ref D) (.int i u))) : wpAny (model prog w) A (subscriptTail value slice (.ref D) (.int i u)) Q E s :=
  have hl := News.isList N hm
  tail_any hl.typeIs slot_list_getitem.lookup (wpAny_getItem_list hl h0 h1 (by simpa using hx) h) hs
theorem my_titem {j : Nat} (N : News h₀ L s.heap news) (hm : (D, tupObj p) ∈ news) (h0 : -(2 ^ 63) ≤ i) (h1 : i < 2 ^ 63) (hj : seqIndex? i p.length = some j) (hx : p[j]? = some y) (h : Q y s)
    (hs : subscripted slice false (.ref D) (.int i u) = operate [.ref D, .int i u] (getItem (.ref D) (.int i u))) : wpAny (model prog w) A (subscriptTail value slice (.ref D) (.int i u)) Q E s :=
  item_tupleT (News.isTup N hm) h0 h1 hj hx h hs
end
theorem lt_ne {q : Addr} {l : Led} (h : ∀ p ∈ l, p.1 < q) : ∀ p ∈ l, p.1 ≠ q := fun p hp => Nat.ne_of_lt (h p hp)
inductive PV where
  | none
  | int (i : Int)
  | true
  | sym
deriving DecidableEq
noncomputable def PV.isSym : PV → Bool
  | .sym => Bool.true
  | _ => false
noncomputable def PV.data : PV → PyData
  | .none => .none
  | .int i => .int i
  | .true => .bool Bool.true
  | .sym => .tuple [.str (Str.ofString "symbol"), .int 7]
noncomputable def PV.isT : PV → Bool
  | .true => Bool.true
  | _ => false
inductive PVal (T : Led) : Value → PV → Prop
  | none : PVal T .none .none
  | int (i : Int) (t : Tok) : PVal T (.int i t) (.int i)
  | true : PVal T (.bool Bool.true) .true
  | sym (q : Addr) (t1 t2 : Tok) : (q, tupObj [.str (Str.ofString "symbol") t1, .int 7 t2]) ∈ T → PVal T (.ref q) .sym
theorem PVal.sy {T : Led} {q : Addr} {t1 t2 : Tok} (h : (q, tupObj [.str (Str.ofString "symbol") t1, .int 7 t2]) ∈ T) : PVal T (.ref q) .sym := .sym q t1 t2 h
theorem PVal.mono {T T' : Led} {v : Value} {x : PV} (h : PVal T v x) (s : ∀ p ∈ T, p ∈ T') : PVal T' v x := by
  cases h with
  | none => exact .none
  | int i t => exact .int i t
  | true => exact .true
  | sym q t1 t2 hm => exact .sym q t1 t2 (s _ hm)
theorem PVal.any {T : Led} {v : Value} {x : PV} (h : PVal [] v x) : PVal T v x := h.mono fun _ h9 => absurd h9 List.not_mem_nil
theorem PVal.reads {T : Led} {v : Value} {x : PV} {h₀ h : Heap} {L : Addr} (H : PVal T v x) (N : News h₀ L h T) : Reads h v x.data [] := by
  cases H with
  | none => exact .none
  | int i t => exact .int i t
  | true => exact .bool _
  | sym q t1 t2 hm => exact .tuple (N _ hm).1 rfl rfl (.cons (.str _ _) (.cons (.int _ _) .nil))
inductive PlItems (T : Led) : List Value → List (Int × PV) → Prop
  | nil : PlItems T [] []
  | cons {vs : List Value} {l : List (Int × PV)} (q : Addr) (k : Int) (t : Tok) (v : Value) (x : PV) : (q, tupObj [.int k t, v]) ∈ T → PVal T v x → PlItems T vs l → PlItems T (.ref q :: vs) ((k, x) :: l)
theorem PlItems.mk' {T : Led} {vs : List Value} {l : List (Int × PV)} {q : Addr} {k : Int} {t : Tok} {v : Value} {x : PV} (h : (q, tupObj [.int k t, v]) ∈ T) (hv : PVal T v x) (hr : PlItems T vs l) : PlItems T (.ref q :: vs) ((k, x) :: l) := .cons q k t v x h hv hr
noncomputable def IsPl (T : Led) (pl : Addr) (l : List (Int × PV)) : Prop := ∃ vs n, (pl, listOf vs.toArray n) ∈ T ∧ PlItems T vs l
theorem PlItems.mono {T T' : Led} {vs : List Value} {l : List (Int × PV)} (h : PlItems T vs l) (s : ∀ p ∈ T, p ∈ T') : PlItems T' vs l := by
  induction h with
  | nil => exact .nil
  | cons q k t v x hm hv _ ih => exact .cons q k t v x (s _ hm) (hv.mono s) ih
theorem IsPl.mono {T T' : Led} {pl : Addr} {l : List (Int × PV)} (h : IsPl T pl l) (s : ∀ p ∈ T, p ∈ T') : IsPl T' pl l := by
  obtain ⟨vs, n, hm, hi⟩ := h
  exact ⟨vs, n, s _ hm, hi.mono s⟩
theorem PlItems.length {T : Led} {vs : List Value} {l : List (Int × PV)} (h : PlItems T vs l) : vs.length = l.length := by
  induction h with
  | nil => rfl
  | cons _ _ _ _ _ _ _ _ ih => simp [ih]
theorem PlItems.at {T : Led} {vs : List Value} {l : List (Int × PV)} (h : PlItems T vs l) : ∀ {i : Nat} {k : Int} {x : PV}, l[i]? = some (k, x) → ∃ q t v, vs[i]? = some (.ref q) ∧ (q, tupObj [.int k t, v]) ∈ T ∧ PVal T v x := by
  induction h with
  | nil => intro i k x h; simp at h
  | cons q k t v x hm hv _ ih =>
    intro i k' x' h
    cases i with
    | zero =>
      simp at h
      obtain ⟨rfl, rfl⟩ := h
      exact ⟨q, t, v, rfl, hm, hv⟩
    | succ i => simpa using ih (by simpa using h)
section
variable {M : Model} {A : Around} {E : Value → Shared → Prop} {s : Shared} {h₀ : Heap} {L : Addr} {news : Led} {x y : PV} {v u : Value} {Q : Value → Shared → Prop} {prog : Program} {w : World}
theorem shaped_pv (x : PV) : SeqAt.shaped x.data = true := by cases x <;> first | rfl | (simp [PV.data, SeqAt.shaped, PyData.canLay0, PyData.canLayAll0, PyData.depth, PyData.depthAll]; first | done | decide +kernel)
theorem eq_pv (N : News h₀ L s.heap news) (hx : PVal news v x) (hy : PVal news u y) (hu : A.units + 64 < cLine) (h : Q (.bool (PyData.eqv x.data y.data)) s) : wpAny (model prog w) A (compareOp .Eq v u) Q E s :=
  eq_dataH (hx.reads N) (hy.reads N) (shaped_pv x) (shaped_pv y) hu h
end
theorem isi_bool {prog : Program} {w : World} {A : Around} {E : Value → Shared → Prop} {s : Shared} {h₀ : Heap} {L : Addr} {T : Led} {v : Value} {x : PV} {Q : Value → Shared → Prop} (N : News h₀ L s.heap T) (hv : PVal T v x) (h : ∀ tk, Q (.bool x.isT) { s with toks := tk }) :
    wpAny (model prog w) A (call (.builtin "isinstance") [v, .type "bool"]) Q E s := by
  cases hv with
  | none => walk1; exact h _
  | int i t => walk1; exact h _
  | true => walk1; exact h _
  | sym q t1 t2 hq => exact IsiPair.tuple_bool (N _ hq).1 rfl (h _)
end TL0

section TL1
open PySem PySem.W PyProof.Rows PySem.Calls PySem.Spec
set_option maxRecDepth 100000
set_option maxHeartbeats 2000000
inductive CutD : Led → Addr → Obj → Led → Prop
  | head {D : Addr} {o : Obj} {l : Led} : CutD ((D, o) :: l) D o l
  | tail {D : Addr} {o : Obj} {l R : Led} {c : Addr × Obj} : CutD l D o R → CutD (c :: l) D o (c :: R)
theorem CutD.mem {l R : Led} {D : Addr} {o : Obj} (C : CutD l D o R) : ∀ p ∈ (D, o) :: R, p ∈ l := by
  induction C with
  | head => exact fun _ h => h
  | tail _ ih =>
    intro p hp
    rcases List.mem_cons.mp hp with rfl | hp
    · exact List.mem_cons_of_mem _ (ih _ List.mem_cons_self)
    · rcases List.mem_cons.mp hp with rfl | hp
      · exact List.mem_cons_self
      · exact List.mem_cons_of_mem _ (ih _ (List.mem_cons_of_mem _ hp))
theorem News.cutD {h₀ h : Heap} {L : Addr} {l R : Led} {D : Addr} {o : Obj} (N : News h₀ L h l) (C : CutD l D o R) : News h₀ L h ((D, o) :: R) := fun p hp => N p (C.mem p hp)
inductive RestX : Led → Led → Led → Prop
  | base {R : Led} : RestX R [] R
  | cons {l x R : Led} {c : Addr × Obj} : RestX l x R → RestX (c :: l) (c :: x) R
inductive CutX : Led → Addr → Obj → Led → Led → Prop
  | head {D : Addr} {o : Obj} {l x R : Led} : RestX l x R → CutX ((D, o) :: l) D o x R
  | tail {D : Addr} {o : Obj} {l x R : Led} {c : Addr × Obj} : CutX l D o x R → CutX (c :: l) D o (c :: x) R
theorem RestX.eq {l x R : Led} (h : RestX l x R) : l = x ++ R := by
  induction h with
  | base => rfl
  | cons _ ih => rw [ih]; rfl
theorem CutX.mem {l x R : Led} {D : Addr} {o : Obj} (C : CutX l D o x R) : ∀ p ∈ (D, o) :: (x ++ R), p ∈ l := by
  induction C with
  | head h => rw [h.eq]; exact fun _ h => h
  | tail _ ih =>
    intro p hp
    rcases List.mem_cons.mp hp with rfl | hp
    · exact List.mem_cons_of_mem _ (ih _ List.mem_cons_self)
    · rcases List.mem_cons.mp hp with rfl | hp
      · exact List.mem_cons_self
      · exact List.mem_cons_of_mem _ (ih _ (List.mem_cons_of_mem _ hp))
theorem News.cutX {h₀ h : Heap} {L : Addr} {l x R : Led} {D : Addr} {o : Obj} (N : News h₀ L h l) (C : CutX l D o x R) : News h₀ L h ((D, o) :: (x ++ R)) := fun p hp => N p (C.mem p hp)
/-- x is newer than l -/
noncomputable def Newer (x l : Led) : Prop := ∀ p ∈ x, ∀ q ∈ l, q.1 < p.1
theorem Newer.nil {l : Led} : Newer [] l := fun _ h => nomatch h
theorem Newer.cons {a : Addr} {o : Obj} {x l : Led} (h : AllLt a l) (n : Newer x l) : Newer ((a, o) :: x) l := by
  intro p hp q hq
  rcases List.mem_cons.mp hp with rfl | hp
  · have all : ∀ {l : Led}, AllLt a l → ∀ p ∈ l, p.1 < a := by
      intro l
      induction l with
      | nil => intro _ p hp; cases hp
      | cons c l ih =>
        intro h p hp
        rcases List.mem_cons.mp hp with rfl | hp
        · exact h.1
        · exact ih h.2 p hp
    exact all h q hq
  · exact n p hp q hq
theorem split3 {a : Int} (h : 0 ≤ a) (h' : a < 3) : a = 0 ∨ a = 1 ∨ a = 2 := by (first | lia | omega)
theorem News.deck {h₀ h : Heap} {L : Addr} {l R : Led} {D : Addr} {o : Obj} (N : News h₀ L h l) (hd : (D, o) ∈ l) (tl : ∀ p ∈ R, p ∈ l) : News h₀ L h ((D, o) :: R) := fun p hp => by
  rcases List.mem_cons.mp hp with rfl | hp
  · exact N _ hd
  · exact N _ (tl _ hp)
/-- what a turn of a for comes to -/
noncomputable def ForPost (Inv : Shared → Prop) (Q : Flow → Shared → Prop) (f : Flow) (s : Shared) : Prop := match f with
  | .next => Inv s
  | .cont => Inv s
  | .brk => Q .next s
  | .ret v => Q (.ret v) s
theorem forPost_ret {Inv : Shared → Prop} {Q : Flow → Shared → Prop} {v : Value} {s : Shared} (h : Q (.ret v) s) : ForPost Inv Q (.ret v) s := h
theorem forPost_brk {Inv : Shared → Prop} {Q : Flow → Shared → Prop} {s : Shared} (h : Q .next s) : ForPost Inv Q .brk s := h
theorem forPost_next {Inv : Shared → Prop} {Q : Flow → Shared → Prop} {s : Shared} (h : Inv s) : ForPost Inv Q .next s := h
noncomputable def ForEnd (h₀ : Heap) (L I : Addr) (o : Obj) (J : (Str → Option Value) → Led → Prop) (s s₃ : Shared) : Prop :=
  ∃ h' tk m' nx', s₃ = { s with heap := h', toks := tk } ∧ Fr h₀ L h' m' ∧ News h₀ L h' ((I, o) :: nx') ∧ (∀ p ∈ nx', p.1 ≠ I) ∧ J m' nx'
section
variable {prog : Program} {w : World} {A : Around} {E : Value → Shared → Prop} {s : Shared} {env : Env} {h₀ : Heap} {target : Expr} {body : List Stmt} {Q : Flow → Shared → Prop}
theorem ForEnd.intro {L I : Addr} {o : Obj} {J : (Str → Option Value) → Led → Prop} {h' : Heap} {tk : Nat} {m' : Str → Option Value} {nx' : Led} (F : Fr h₀ L h' m') (N : News h₀ L h' ((I, o) :: nx')) (hI : ∀ p ∈ nx', p.1 ≠ I) (j : J m' nx') :
    ForEnd h₀ L I o J s { s with heap := h', toks := tk } := ⟨h', tk, m', nx', rfl, F, N, hI, j⟩
theorem for_stop {iter : Expr} {pos : Pos} {m : Str → Option Value} (F : Fr h₀ env.locals s.heap m)
    (h : wpAny (model prog w) A (eval iter env) (fun xv s₁ => Stop (wpAny (model prog w) A (pyIter xv) (fun it s₂ => TurnsAt prog w A h₀ env target body Q E it s₂) E s₁)) E s)
    (hs : ∀ x, foldedSetIterable iter env x = pure x)
    (hE : PassesOwn (model prog w) A env E) : wpAny (model prog w) A (exec (.For target iter body [] pos) env) Q E s := For_turns F h hs hE
theorem for_list0 {ax : Addr} {lo : Obj} {vs : List Value} {n : Nat} {m₀ : Str → Option Value} {news : Led} (J : List Value → (Str → Option Value) → Led → Prop)
    (hh : A.handled = none) (F : Fr h₀ env.locals s.heap m₀) (N : News h₀ env.locals s.heap news) (hm : (ax, lo) ∈ news) (hc : lo.cls = .type "list") (hd : lo.data = .seq vs.toArray n) (h0 : J vs m₀ news)
    (turn : ∀ I o v r m₁ nx h tk, (∀ p ∈ news, p.1 < I) → (∀ p ∈ nx, p.1 ≠ I) → J (v :: r) m₁ nx → (ax, lo) ∈ nx → Fr h₀ env.locals h m₁ → News h₀ env.locals h ((I, o) :: nx) →
      wpAny (model prog w) A (assign target env v) (fun _ s₂ => wpAny (model prog w) A (execs body env) (ForPost (ForEnd h₀ env.locals I o (fun m' nx' => (ax, lo) ∈ nx' ∧ J r m' nx') { s with heap := h, toks := tk }) Q) E s₂) E { s with heap := h, toks := tk })
    (done : ∀ m₁ nx h tk, J [] m₁ nx → Fr h₀ env.locals h m₁ → News h₀ env.locals h nx → Q .next { s with heap := h, toks := tk }) :
    Stop (wpAny (model prog w) A (pyIter (.ref ax)) (fun it s₂ => TurnsAt prog w A h₀ env target body Q E it s₂) E s) := by
  refine iter_listTurns hh F N hm hc hd fun I hI => ?_
  have all : ∀ vs m₁ nx, (∀ p ∈ nx, p.1 ≠ I) → J vs m₁ nx → (ax, lo) ∈ nx → ItemsRest prog w A E h₀ env target body Q s [(I, "list_iterator")] [(ax, lo)] (vs.map .val) m₁ nx := by
    intro vs
    induction vs with
    | nil => exact fun m₁ nx _ j _ => ItemsRest.zero fun h tk F N => done m₁ nx h tk j F N
    | cons v r ih =>
      intro m₁ nx hne j hx
      refine ItemsRest.val fun h tk F => AllObj.cons fun o _ => AllObj.nil ?_
      intro N
      refine wpAny_mono (turn I o v r m₁ nx h tk hI hne j hx F N) (fun _ s₂ h₂ => wpAny_mono h₂ (fun f s₃ p => ?_) fun _ _ e => e) fun _ _ e => e
      have fin : ForEnd h₀ env.locals I o (fun m' nx' => (ax, lo) ∈ nx' ∧ J r m' nx') { s with heap := h, toks := tk } s₃ → UnrEndW h₀ env.locals { s with heap := h, toks := tk } [(I, o)] (fun m' n' => SubL [(ax, lo)] n' ∧ ItemsRest prog w A E h₀ env target body Q s [(I, "list_iterator")] [(ax, lo)] (r.map .val) m' n') s₃ := by
        rintro ⟨h', tk', m', nx', rfl, F', N', hI', hx', j'⟩
        exact ⟨h', tk', m', nx', rfl, F', N', fun p hp q hq => by rw [List.mem_singleton.mp hq]; exact hI' p hp, ⟨hx', trivial⟩, ih m' nx' hI' j' hx'⟩
      cases f with
      | ret v => exact p
      | brk => exact p
      | next => exact fin p
      | cont => exact fin p
  exact all vs m₀ news (fun p hp => Nat.ne_of_lt (hI p hp)) h0 hm
theorem for_range0 {x : Str} {px : Pos} {r : Addr} {a₀ b₀ : Int} {t₀ u₀ v₀ : Tok} {n : Nat} {m₀ : Str → Option Value} {news : Led} (J : Nat → (Str → Option Value) → Led → Prop)
    (hh : A.handled = none) (hr : IsRange s.heap r a₀ b₀ 1 t₀ u₀ v₀) (ha : 0 ≤ a₀ ∧ a₀ ≤ 1000000000) (hb : 0 ≤ b₀ ∧ b₀ ≤ 1000000000) (hz : (b₀ - a₀).toNat = n) (F : Fr h₀ env.locals s.heap m₀) (N : News h₀ env.locals s.heap news) (h0 : J 0 m₀ news)
    (turn : ∀ I o (i : Nat) (kk : Int) t m₁ nx h tk, (∀ p ∈ news, p.1 < I) → (∀ p ∈ nx, p.1 ≠ I) → i < n → kk = a₀ + (i : Int) → J i m₁ nx → Fr h₀ env.locals h m₁ → News h₀ env.locals h ((I, o) :: nx) →
      wpAny (model prog w) A (assign (.Name x px) env (.int kk t)) (fun _ s₂ => wpAny (model prog w) A (execs body env) (ForPost (ForEnd h₀ env.locals I o (J (i + 1)) { s with heap := h, toks := tk }) Q) E s₂) E { s with heap := h, toks := tk })
    (done : ∀ m₁ nx h tk, J n m₁ nx → Fr h₀ env.locals h m₁ → News h₀ env.locals h nx → Q .next { s with heap := h, toks := tk }) :
    Stop (wpAny (model prog w) A (pyIter (.ref r)) (fun it s₂ => TurnsAt prog w A h₀ env (.Name x px) body Q E it s₂) E s) := by
  have hsmall : Builtin.Range.small a₀ b₀ 1 = true := small_one (by (first | lia | omega)) (by (first | lia | omega)) (by (first | lia | omega)) (by (first | lia | omega))
  have hn : Builtin.Range.rangeSize a₀ b₀ 1 = (n : Int) := by rw [rangeSize_one]; split <;> (first | lia | omega)
  refine wpAny_pyIter_range hr hsmall ?_
  have W : Walks prog w A s.heap.objs.size [s.heap.objs.size] [s.heap.objs.size] n (fun i v => i < n ∧ ∃ t, v = .int (a₀ + i * 1) t)
      (fun i h => IsRangeIter h s.heap.objs.size (a₀ + (i : Nat) * 1) ((n : Int) - (i : Nat)) 1) := (Walks.range hh _ a₀ 1 n).bound
  refine ⟨_, _, _, n, _, _, _, m₀, news, J, rfl, KTurns.ofWalks W (fun _ _ _ _ _ _ q => wpAny_of_eq rfl q), ?_, ?_, ?_, (by show IsRangeIter _ _ _ _ _; rw [hn]; simpa using Heap.get?_push_size _ rfl), F.push _, (fun p hp => ⟨Heap.get?_push_of_some _ (N p hp).1, (N p hp).2⟩), h0, ?_, ?_⟩
  · intro hm
    exact absurd F.ns.lt ((List.mem_singleton.mp hm) ▸ Nat.lt_irrefl _)
  · intro b hb
    rw [List.mem_singleton.mp hb]
    exact next_is_new F
  · intro p hp hI
    exact absurd (Heap.lt_size (N p hp).1) ((List.mem_singleton.mp hI) ▸ Nat.lt_irrefl _)
  · rintro i v m₁ news₁ h₁ tk₁ own hin ⟨_, t, rfl⟩ hJ hoff hown hget hall hst₁ F₁ N₁
    have hst2 : IsRangeIter h₁ s.heap.objs.size _ _ _ := hst₁
    obtain ⟨oI, hoI⟩ : ∃ oI, h₁.get? s.heap.objs.size = some oI := ⟨_, hst2⟩
    have hI : (s.heap.objs.size, oI) ∈ own := hall _ (List.mem_singleton.mpr rfl) (next_is_new F) _ hoI
    have N₂ : News h₀ env.locals h₁ ((s.heap.objs.size, oI) :: news₁) := fun p hp => N₁ p (by
      rcases List.mem_cons.mp hp with rfl | hp
      · exact List.mem_append_left _ hI
      · exact List.mem_append_right _ hp)
    have e1 : a₀ + (i : Int) * 1 = a₀ + (i : Int) := by (first | lia | omega)
    rw [e1]
    refine wpAny_mono (turn _ _ i _ t m₁ news₁ h₁ tk₁ (fun p hp => Heap.lt_size (N p hp).1) (fun p hp e => hoff p hp (List.mem_singleton.mpr e)) hin rfl hJ F₁ N₂) (fun _ s₂ h₂ => wpAny_mono h₂ (fun f s₃ p => ?_) fun _ _ e => e) fun _ _ e => e
    have fin : ForEnd h₀ env.locals s.heap.objs.size oI (J (i + 1)) { s with heap := h₁, toks := tk₁ } s₃ → PyProof.Rows.LoopStepU h₀ env.locals [s.heap.objs.size] own (J (i + 1)) { s with heap := h₁, toks := tk₁ } .next s₃ := by
      rintro ⟨h', tk', m', nx', rfl, F', N', hI', j'⟩
      refine ⟨rfl, h', tk', m', nx', rfl, F', fun p hp => ?_, fun p hp hq => hI' p hp (List.mem_singleton.mp hq), j'⟩
      rcases List.mem_append.mp hp with hp | hp
      · have h1 := List.mem_singleton.mp (hown p hp)
        have h2 := hget p hp
        obtain ⟨pa, po⟩ := p
        dsimp only at h1 h2
        subst h1
        have h3 := hget _ hI
        have h4 := Option.some.inj (h2.symm.trans h3)
        subst h4
        exact N' _ List.mem_cons_self
      · exact N' p (List.mem_cons_of_mem _ hp)
    cases f with
    | ret v => exact .ret p
    | brk => exact .brk p
    | next => exact .next (fin p)
    | cont => exact .cont (fin p)
  · rintro h' tk m' news' F' N' _ hJ
    exact done m' news' h' tk hJ F' N'
/-- the same, told for a goal of any kind: small terms -/
theorem for_list {L : Addr} {hp : Heap} {gn : Array GenState} {dr : Drawn} {os : OsState} {tk₀ : Nat} {ax : Addr} {lo : Obj} {vs : List Value} {n : Nat} {m₀ : Str → Option Value} {news : Led} (J : List Value → (Str → Option Value) → Led → Prop)
    (hh : A.handled = none) (F : Fr h₀ L hp m₀) (N : News h₀ L hp news) (hm : (ax, lo) ∈ news) (hc : lo.cls = .type "list") (hd : lo.data = .seq vs.toArray n) (h0 : J vs m₀ news)
    (turn : ∀ I o v r m₁ nx h tk (G : Prop), ((let P := ForPost (ForEnd h₀ L I o (fun m' nx' => (ax, lo) ∈ nx' ∧ J r m' nx') ⟨h, gn, dr, tk, os⟩) Q; wpAny (model prog w) A (assign target env v) (fun _ s₂ => wpAny (model prog w) A (execs body env) P E s₂) E ⟨h, gn, dr, tk, os⟩) → G) →
      (∀ p ∈ news, p.1 < I) → (∀ p ∈ nx, p.1 ≠ I) → J (v :: r) m₁ nx → (ax, lo) ∈ nx → Fr h₀ L h m₁ → News h₀ L h ((I, o) :: nx) → G)
    (done : ∀ m₁ nx h tk, J [] m₁ nx → Fr h₀ L h m₁ → News h₀ L h nx → Q .next ⟨h, gn, dr, tk, os⟩) (hL : env.locals = L) :
    Stop (wpAny (model prog w) A (pyIter (.ref ax)) (fun it s₂ => TurnsAt prog w A h₀ env target body Q E it s₂) E ⟨hp, gn, dr, tk₀, os⟩) := by
  subst hL
  exact for_list0 (s := ⟨hp, gn, dr, tk₀, os⟩) J hh F N hm hc hd h0 (fun I o v r m₁ nx h tk a b c d e f => turn I o v r m₁ nx h tk _ id a b c d e f) done
theorem for_range {L : Addr} {hp : Heap} {gn : Array GenState} {dr : Drawn} {os : OsState} {tk₀ : Nat} {x : Str} {px : Pos} {r : Addr} {a₀ b₀ : Int} {t₀ u₀ v₀ : Tok} {n : Nat} {m₀ : Str → Option Value} {news : Led} (J : Nat → (Str → Option Value) → Led → Prop)
    (hh : A.handled = none) (hr : IsRange hp r a₀ b₀ 1 t₀ u₀ v₀) (ha : 0 ≤ a₀ ∧ a₀ ≤ 1000000000) (hb : 0 ≤ b₀ ∧ b₀ ≤ 1000000000) (hz : (b₀ - a₀).toNat = n) (F : Fr h₀ L hp m₀) (N : News h₀ L hp news) (h0 : J 0 m₀ news)
    (turn : ∀ I o (i : Nat) (kk : Int) t m₁ nx h tk (G : Prop), ((let P := ForPost (ForEnd h₀ L I o (J (i + 1)) ⟨h, gn, dr, tk, os⟩) Q; wpAny (model prog w) A (assign (.Name x px) env (.int kk t)) (fun _ s₂ => wpAny (model prog w) A (execs body env) P E s₂) E ⟨h, gn, dr, tk, os⟩) → G) →
      (∀ p ∈ news, p.1 < I) → (∀ p ∈ nx, p.1 ≠ I) → i < n → kk = a₀ + (i : Int) → J i m₁ nx → Fr h₀ L h m₁ → News h₀ L h ((I, o) :: nx) → G)
    (done : ∀ m₁ nx h tk, J n m₁ nx → Fr h₀ L h m₁ → News h₀ L h nx → Q .next ⟨h, gn, dr, tk, os⟩) (hL : env.locals = L) :
    Stop (wpAny (model prog w) A (pyIter (.ref r)) (fun it s₂ => TurnsAt prog w A h₀ env (.Name x px) body Q E it s₂) E ⟨hp, gn, dr, tk₀, os⟩) := by
  subst hL
  exact for_range0 (s := ⟨hp, gn, dr, tk₀, os⟩) J hh hr ha hb hz F N h0 (fun I o i kk t m₁ nx h tk a b c d e f g => turn I o i kk t m₁ nx h tk _ id a b c d e f g) done
theorem my_set {L D : Addr} {m : Str → Option Value} {news news' : Led} {vs : List Value} {n : Nat} {k : Int} {t : Tok} {y : Value} {Q : Unit → Shared → Prop} (F : Fr h₀ L s.heap m) (N : News h₀ L s.heap news) (U : Upd D (listOf vs.toArray n) (listOf (vs.set k.toNat y).toArray n) news news') (h0 : 0 ≤ k) (h1 : k < vs.length) (hfit : k < 2 ^ 63)
    (h : ∀ h', Fr h₀ L h' m → News h₀ L h' news' → Q () { s with heap := h' }) :
    wpAny (model prog w) A (setItem (.ref D) (.int k t) y) Q E s := by
  obtain ⟨pre, post, rfl, rfl, a, b⟩ := U.split
  have z := N (D, listOf vs.toArray n) (List.mem_append.mpr (.inr (.head _)))
  have hj : k.toNat < vs.length := by (first | lia | omega)
  refine ki_setAt z.1 h0 hfit (by simpa using h1) (h _ (F.change (Heap.SameBut.update ..) z.2.1 z.2.2) (ki_turn _ N a b ?_ ?_))
  · show vs.toArray.setIfInBounds k.toNat y = (vs.set k.toNat y).toArray
    apply Array.toList_inj.mp
    simp
  · simp
end
end TL1

section TD0
open PySem PySem.W PyProof.Rows PySem.Calls PySem.Spec PyProof.V
set_option maxRecDepth 100000
set_option maxHeartbeats 4000000
theorem dk_miss : typeLookup (.type "list") "keys" = pure none := am_miss_of_fast (by kernel_rfl)
theorem dk_plain : plainId "dict.update.loop" = true := by decide +kernel
theorem dk_entry : entryFor table "dict.update.loop" = some Builtin.«dict.update.loop» := entryFor_of_tree (by kernel_rfl)
section
variable {prog : Program} {w : World} {A : Around} {E : Value → Shared → Prop} {s : Shared}
/-- a list has no attribute keys -/
theorem dk_keys {a : Addr} {o : Obj} {xs : Array Value} {k : Nat} {Q : Option Value → Shared → Prop} (hx : s.heap.get? a = some o) (hc : o.cls = .type "list") (hdat : o.data = .seq xs k) (hd : o.dict = none) (hA : A.handled = none)
    (h : ∀ h' tk, (∀ b ob, s.heap.get? b = some ob → h'.get? b = some ob) → Q none { s with heap := h', toks := tk }) : wpAny (model prog w) A (getAttr? (.ref a) "keys") Q E s := by
  obtain ⟨c, dct, dat, sl⟩ := o
  simp only at hc hdat hd
  subst hc hdat hd
  obtain ⟨hp, g, d, tk, os⟩ := s
  have hT : ∀ tk', (⟨hp, g, d, tk', os⟩ : Shared).TypeIs (.ref a) "list" := fun _ => ⟨_, hx, rfl⟩
  have f1 := sub_AttributeError
  have f3 := F.slot_list_getattribute.lookup
  have f4 := F.slot_list_getattribute.bind (.ref a)
  have f5 := am_list_getattr_none
  have hname : (["__module__", "__name__", "__qualname__", "__doc__", "__annotations__"] : List Str).contains ("keys" : Str) = false := by decide
  have hsz : ("keys" : Str).length + 100 ≤ sizeLine := by decide
  unfold getAttr? getAttrBy? getAttrBy
  repeat (any_goals (first | assumption | exact hT _ | ((with_reducible show wpAny _ _ (call (Value.builtin "list.__getattribute__") _ _) _ _ _); refine call_meets F.slot_list_getattribute (hT _) am_entry_list_getattribute (F.args_list_getattribute_2 _ _) (meets_getattribute_miss_list a xs k sl "keys" _ dk_miss hname hsz) ⟨hx, hA, fun h' tk' e hx' => ?_⟩) | wp_step))
  obtain ⟨t', u', he⟩ := hx'.there
  have hTe : (⟨h', g, d, tk', os⟩ : Shared).TypeIs (.ref e) "AttributeError" := ⟨_, he, rfl⟩
  show wpAny _ _ (getattributeRaised _ _ _ _ _ _ _) _ _ _
  unfold getattributeRaised
  repeat (any_goals (first | assumption | wp_step))
  exact h _ _ hx'.keeps
noncomputable abbrev kv2 (x : Addr × Int × Value) : Int × Value := x.2
/-- the loop of dict(pairs), over a list of pairs with int keys -/
theorem dk_loop {R : Result → Shared → Prop} {I l d : Addr} {items : Array Value} (hl : l ≠ I) (hd1 : d ≠ I) (hd2 : d ≠ l) (hA : A.in1.handled = none) (rows : List (Int × Value))
    (hrow : ∀ (i : Nat) (v : Value) (h : Heap), items[i]? = some v → (∀ b o, b ≠ I → b ≠ d → s.heap.get? b = some o → h.get? b = some o) → ∃ q k t u, v = .ref q ∧ rows[i]? = some (k, u) ∧ h.IsTuple q #[.int k t, u])
    (hlen : rows.length = items.size) (hsz : rows.length ≤ 1000) :
    ∀ (j i : Nat) (s' : Shared) (kvs : List (Int × Value)) (n : Int) (t : Tok), items.size - i = j → i ≤ items.size → (∃ h tk, s' = { s with heap := h, toks := tk }) → (∀ b o, b ≠ I → b ≠ d → s.heap.get? b = some o → s'.heap.get? b = some o) → s'.heap.IsListIter I l i → s'.heap.IsList l items →
      s'.heap.DictOf (intKind prog w) d kvs → kvs.length ≤ i → kvs = (rows.take i).foldl (fun a p => stored a p.1 p.2) [] →
      (∀ h tk, (∀ b o, b ≠ I → b ≠ d → s.heap.get? b = some o → h.get? b = some o) → h.DictOf (intKind prog w) d (rows.foldl (fun a p => stored a p.1 p.2) []) → R (.ok (.ret .none)) { s with heap := h, toks := tk }) →
      codeAny (model prog w) A (.builtin "dict.update.loop" ⟨[.ref d, .ref I, .int n t, .none], []⟩) R s' := by
  intro j
  induction j with
  | zero =>
    rintro i _ kvs n t hj hi ⟨h, tk, rfl⟩ hk hit hli hdo hkl hkv hR
    have hin : i = items.size := by (first | lia | omega)
    subst hin
    refine codeAny_builtin dk_entry ?_
    rw [Around.under_plainId dk_plain _]
    show wpAny _ A.in1 (pyNext (.ref I) >>= _) _ _ _
    have W := Walks.list (prog := prog) (w := w) hA I l hl items
    refine wpAny_bind (W.done _ _ _ ⟨hit, hli⟩ fun h' tk' hk' => ?_)
    show wpAny _ A.in1 (ret Value.none) _ _ _
    refine wpAny_pure (hR h' tk' (fun b o hb hbd e => hk' b o (by simpa using hb) (hk b o hb hbd e)) ?_)
    rw [← hlen, List.take_length] at hkv
    rw [← hkv]
    obtain ⟨o, es, ep, ho, rest⟩ := hdo
    exact ⟨o, es, ep, hk' d o (by simpa using hd1) ho, rest⟩
  | succ j ih =>
    rintro i _ kvs n t hj hi ⟨h, tk, rfl⟩ hk hit hli hdo hkl hkv hR
    have hlt : i < items.size := by (first | lia | omega)
    refine codeAny_builtin dk_entry ?_
    rw [Around.under_plainId dk_plain _]
    show wpAny _ A.in1 (pyNext (.ref I) >>= _) _ _ _
    have W := Walks.list (prog := prog) (w := w) hA I l hl items
    refine wpAny_bind (W.item i _ _ _ hlt ⟨hit, hli⟩ fun v h' tk' hP hst' hk' => ?_)
    have hk2 : ∀ b o, b ≠ I → b ≠ d → s.heap.get? b = some o → h'.get? b = some o := fun b o hb hbd e => hk' b o (by simpa using hb) (hk b o hb hbd e)
    obtain ⟨q, k, t1, u, rfl, hr, hq⟩ := hrow i v h' hP hk2
    show wpAny _ A.in1 (holding [Value.ref q] _ >>= _) _ _ _
    refine wpAny_bind (wpAny_holding ?_)
    have hqT : (Shared.TypeIs { s with heap := h', toks := tk' } (.ref q) "tuple") := by
      obtain ⟨o, ho, hc, _⟩ := hq
      exact ⟨o, ho, hc⟩
    obtain ⟨oq, hoq, _, nq, hdq⟩ := hq
    refine wpAny_bind (wpAny_tryCatch ?_)
    unfold Builtin.Dict.pairItems
    refine wpAny_bind (wpAny_typeOf hqT ?_)
    rw [if_pos (by decide)]
    refine wpAny_bind (wpAny_seqItems hoq hdq ?_)
    refine wpAny_pure ?_
    show wpAny _ _ (holding [Value.int k t1, u] (dictSet d (Value.int k t1) u)) _ _ _
    refine wpAny_holding ?_
    have hdo' : h'.DictOf (intKind prog w) d kvs := by
      obtain ⟨o, es, ep, ho, rest⟩ := hdo
      exact ⟨o, es, ep, hk' d o (by simpa using hd1) ho, rest⟩
    refine wpAny_dictSet_pairs (knd := intKind prog w) (s := { s with heap := h', toks := tk' }) (intKind_is _ _ _ _) hdo' (fun h'' hd'' hsb => ?_) (by rw [sizeLine_eq]; (first | lia | omega))
    refine wpAny_pure ⟨plainId_quiet dk_plain _, ih (i + 1) _ (stored kvs k u) _ _ (by (first | lia | omega)) hlt ⟨h'', _, rfl⟩ (fun b o hb hbd e => (hsb.2 b hbd).trans (hk2 b o hb hbd e)) (hst'.1.at fun o e => (hsb.2 I (Ne.symm hd1)).trans e) (hst'.2.at fun o e => (hsb.2 l (Ne.symm hd2)).trans e) hd'' ?_ ?_ hR⟩
    · have : (stored kvs k u).length ≤ kvs.length + 1 := by
        unfold stored
        split <;> simp
      (first | lia | omega)
    · rw [List.take_add_one, hr, hkv]
      simp
theorem dk_call {l : Addr} {ol : Obj} {items : Array Value} {kn : Nat} {Q : Value → Shared → Prop} (hA : A.handled = none) (hx : s.heap.get? l = some ol) (hc : ol.cls = .type "list") (hdat : ol.data = .seq items kn) (hd : ol.dict = none) (rows : List (Int × Value))
    (hrow : ∀ (i : Nat) (v : Value), items[i]? = some v → ∃ q k t u, v = .ref q ∧ rows[i]? = some (k, u) ∧ s.heap.IsTuple q #[.int k t, u]) (hlen : rows.length = items.size) (hsz : rows.length ≤ 1000)
    (h : ∀ h' tk, h'.DictOf (intKind prog w) s.heap.objs.size (rows.foldl (fun a p => stored a p.1 p.2) []) → (∀ b o, s.heap.get? b = some o → h'.get? b = some o) → Q (.ref s.heap.objs.size) { s with heap := h', toks := tk }) :
    wpAny (model prog w) A (call (.type "dict") [.ref l]) Q E s := by
  refine callType_codes (Q₁ := fun obj s₁ => obj = .ref s.heap.objs.size ∧ s₁ = { s with heap := s.heap.push { cls := .type "dict", data := .dict #[] } }) F.kt_called_dict (F.kt_typeCall_dict_1 _) F.entry_dict_init (kt_code_dict_new _ ⟨rfl, rfl⟩) ?_
  rintro obj s₁ ⟨rfl, rfl⟩
  have hnew : (s.heap.push { cls := .type "dict", data := .dict #[] }).DictOf (intKind prog w) s.heap.objs.size [] := Heap.DictOf.new s.heap
  have hx1 : (s.heap.push { cls := .type "dict", data := .dict #[] }).get? l = some ol := Heap.get?_push_of_some _ hx
  have hlT : Shared.TypeIs { s with heap := s.heap.push { cls := .type "dict", data := .dict #[] } } (.ref l) "list" := ⟨ol, hx1, hc⟩
  refine ⟨hnew.typeIs, F.args_dict_init_2 _ _, ?_⟩
  unfold Builtin.«dict.__init__»
  refine wpAny_bind ?_
  unfold Builtin.Dict.selfAndRest
  refine wpAny_bind (wpAny_notOrdered_dict hnew.typeIs ?_)
  show wpAny _ _ (pure (s.heap.objs.size, [Value.ref l])) _ _ _
  refine wpAny_pure ?_
  show wpAny _ _ (Builtin.Dict.updateFrom "dict.__init__" s.heap.objs.size (.ref l) [] .none) _ _ _
  unfold Builtin.Dict.updateFrom
  refine wpAny_bind (wpAny_typeOf hlT ?_)
  rw [if_pos (by decide)]
  refine wpAny_bind (dk_keys hx1 hc hdat hd (by simp [hA]) fun h1 tk1 hk1 => ?_)
  rw [if_pos (show (none : Option Value).isNone = true from rfl)]
  refine wpAny_bind (wpAny_rule ?_)
  have hx2 : h1.get? l = some ol := hk1 _ _ hx1
  have hl2 : h1.IsList l items := ⟨ol, hx2, hc, kn, hdat⟩
  have hnew1 : h1.get? s.heap.objs.size = some { cls := .type "dict", data := .dict #[] } := hk1 _ _ (Heap.get?_push_size _ rfl)
  have hlS : l < s.heap.objs.size := Heap.lt_size hx
  have hdI : s.heap.objs.size < h1.objs.size := Heap.lt_size hnew1
  refine wpAny_bind (wpAny_pyIter_list hl2 ?_)
  refine wpAny_pure ⟨plainId_quiet dk_plain _, dk_loop (s := { s with heap := h1.push { cls := .type "list_iterator", data := .fields #[.ref l, .int 0 0] }, toks := tk1 }) (l := l) (items := items) (Nat.ne_of_lt (Nat.lt_trans hlS hdI)) (Nat.ne_of_lt hdI) (Nat.ne_of_gt hlS) (by simp [hA]) rows ?_ hlen hsz (items.size - 0) 0 _ [] _ _ rfl (Nat.zero_le _) ⟨_, _, rfl⟩ (fun _ _ _ _ e => e) ⟨_, Heap.get?_push_size _ rfl, rfl, rfl⟩ (hl2.push _) ?_ (Nat.le_refl _) rfl ?_⟩
  · intro i v g hi hg
    obtain ⟨q, k, t, u, rfl, hr, o, ho, hoc, nn, hod⟩ := hrow i v hi
    have hq : q < s.heap.objs.size := Heap.lt_size ho
    have h2 : h1.get? q = some o := hk1 _ _ (Heap.get?_push_of_some _ ho)
    exact ⟨q, k, t, u, rfl, hr, o, hg q o (Nat.ne_of_lt (Nat.lt_trans hq hdI)) (Nat.ne_of_lt hq) (Heap.get?_push_of_some _ h2), hoc, nn, hod⟩
  · have := hnew
    obtain ⟨o, es, ep, ho, rest⟩ := this
    exact ⟨o, es, ep, Heap.get?_push_of_some _ (hk1 _ _ ho), rest⟩
  · intro g tk hg hgd
    refine ⟨rfl, h g tk hgd fun b o e => ?_⟩
    have hb : b < s.heap.objs.size := Heap.lt_size e
    exact hg b o (Nat.ne_of_lt (Nat.lt_trans hb hdI)) (Nat.ne_of_lt hb) (Heap.get?_push_of_some _ (hk1 _ _ (Heap.get?_push_of_some _ e)))
section
variable {h₀ : Heap} {L : Addr} {m : Str → Option Value} {news : List (Addr × Obj)}
/-- dict of a made list of made pairs -/
theorem dk_news {l : Addr} {vs : List Value} {kn : Nat} {Q : Value → Shared → Prop} (hA : A.handled = none) (F : Fr h₀ L s.heap m) (N : News h₀ L s.heap news) (hbig : sysModules < h₀.objs.size) (hm : (l, ({ cls := .type "list", data := .seq vs.toArray kn } : Obj)) ∈ news) (rows : List (Int × Value))
    (hrow : ∀ (i : Nat) (v : Value), vs[i]? = some v → ∃ q k t u, v = .ref q ∧ rows[i]? = some (k, u) ∧ (q, ({ cls := .type "tuple", data := .seq #[.int k t, u] } : Obj)) ∈ news) (hlen : rows.length = vs.length) (hsz : rows.length ≤ 1000) (hnd : (rows.map (·.1)).Nodup)
    (h : ∀ D o h' tk, Fr h₀ L h' m → News h₀ L h' ((D, o) :: news) → (∀ p ∈ news, p.1 < D) → (D == sysModules) = false → o.IsDictOf (intKind prog w) rows → Q (.ref D) { s with heap := h', toks := tk }) :
    wpAny (model prog w) A (call (.type "dict") [.ref l]) Q E s := by
  refine dk_call hA (N _ hm).1 rfl rfl rfl rows (fun i v hi => ?_) (by simpa using hlen) hsz fun h' tk hd hk => ?_
  · obtain ⟨q, k, t, u, e, hr, hq⟩ := hrow i v (by simpa using hi)
    exact ⟨q, k, t, u, e, hr, _, (N _ hq).1, rfl, _, rfl⟩
  · have e : rows.foldl (fun a p => stored a p.1 p.2) [] = rows := merged_nil_of_nodup rows hnd
    rw [e] at hd
    obtain ⟨o, ho, hd'⟩ := Heap.dictOf_iff.mp hd
    refine h _ o h' tk (F.keeps hk) (fun p hp => ?_) (fun p hp => Heap.lt_size (N p hp).1) (F.notModules hbig) hd'
    rcases List.mem_cons.mp hp with rfl | hp
    · exact ⟨ho, Nat.ne_of_gt F.ns.lt, next_is_new F⟩
    · exact ⟨hk _ _ (N p hp).1, (N p hp).2⟩
end
end
end TD0

section TI0
open PySem PySem.W PyProof.Rows PySem.Calls PySem.Spec PySem.MeetsSeq
set_option maxRecDepth 100000
set_option maxHeartbeats 4000000
theorem wpAny_forIn_upto {M : Model} {A : Around} {E : Value → Shared → Prop} {s : Shared} {β : Type} (f : Nat → β → Sem (ForInStep β)) (I : Nat → β → Shared → Prop) (Q : β → Shared → Prop) (n : Nat)
    (turn : ∀ i b s, i < n → I i b s → wpAny M A (f i b) (fun r s' => match r with | .yield b' => I (i + 1) b' s' | .done b' => Q b' s') E s)
    (fin : ∀ b s, I n b s → Q b s) (b : β) (h : I 0 b s) : wpAny M A (forIn ([0:n] : Std.Legacy.Range) b f) Q E s := by
  rw [Std.Legacy.Range.forIn_eq_forIn_range']
  have hsz : ([0:n] : Std.Legacy.Range).size = n := by simp [Std.Legacy.Range.size]
  show wpAny M A (forIn (List.range' 0 ([0:n] : Std.Legacy.Range).size 1) b f) Q E s
  rw [hsz]
  refine wpAny_forIn_list f (fun l b s => ∃ i, i ≤ n ∧ l = List.range' i (n - i) 1 ∧ I i b s) Q ?_ ?_ _ b ⟨0, Nat.zero_le _, by simp, h⟩
  · rintro x rest b s ⟨i, hi, hl, hI⟩
    have hlt : i < n := by
      rcases Nat.lt_or_ge i n with h | h
      · exact h
      · rw [show n - i = 0 by (first | lia | omega)] at hl; cases hl
    rw [show n - i = (n - (i + 1)) + 1 by (first | lia | omega), List.range'_succ] at hl
    obtain ⟨rfl, hl⟩ := List.cons.inj hl
    refine wpAny_mono (turn x b s hlt hI) (fun r s' hr => ?_) fun _ _ h' => h'
    cases r with
    | done b' => exact hr
    | yield b' => exact ⟨x + 1, hlt, hl, hr⟩
  · rintro b s ⟨i, hi, hl, hI⟩
    have : i = n := by
      rcases Nat.lt_or_ge i n with h | h
      · rw [show n - i = (n - (i + 1)) + 1 by (first | lia | omega), List.range'_succ] at hl; cases hl
      · (first | lia | omega)
    subst this
    exact fin b s hI
theorem ti_meets (l : Addr) (items : Array Value) (n : Nat) (x : Value) (e : Value → Bool) (he : ∀ y, y ∈ items → EqGives y x (e y)) (j : Nat) (hj : j < items.size) (hit : e items[j] = true) (hno : ∀ m (hm : m < items.size), m < j → e items[m] = false) :
    Meets (Builtin.«tuple.index» ⟨[.ref l, x], []⟩)
      (fun _ R s => s.heap.get? l = some { cls := .type "tuple", dict := none, data := .seq items n, slots := #[] } ∧ R (.ok (.ret (.int j s.toks))) { s with toks := s.toks + 1 }) :=
  .of_wp fun prog w A R s h => by
    obtain ⟨hp, g, d, tk, os⟩ := s; obtain ⟨hl, h⟩ := h
    wp_walk using AutoSeq1.wpAny_loadPart' hl, wpAny_forIn_upto _ (fun i b s' => i ≤ j ∧ s' = ⟨hp, g, d, tk, os⟩) _ _
    case turn =>
      rintro i b s' hi ⟨hij, rfl⟩
      have hlt : i < items.size := by (first | lia | omega)
      rw [show items[i]? = some items[i] by simp [hlt]]
      refine wpAny_bind (he _ (Array.getElem_mem hlt) prog w _ _ _ _ ?_)
      rcases Nat.lt_or_ge i j with h9 | h9
      · rw [hno i hlt h9]
        wp_walk
        exact ⟨h9, rfl⟩
      · have : i = j := by (first | lia | omega)
        subst this
        rw [hit]
        wp_walk
        exact ⟨_, rfl, h⟩
    case fin =>
      rintro b s' ⟨hij, rfl⟩
      (first | lia | omega)
    case h => exact ⟨Nat.zero_le _, rfl⟩
section
variable {prog : Program} {w : World} {A : Around} {E : Value → Shared → Prop} {s : Shared} {l : Addr} {items : Array Value} {n : Nat} {nm : Str} {t : Tok}
theorem ti_method {pl : Sem Bool} {Q : Value × List Value → Shared → Prop} (hl : s.heap.get? l = some { cls := .type "tuple", dict := none, data := .seq items n, slots := #[] })
    (h : Q (.builtin "tuple.index", [.ref l]) s) : wpAny (model prog w) A (getMethod (.ref l) (Str.ofString "index") pl) Q E s :=
  getMethod_builtin ⟨_, hl, rfl⟩ PySem.F.plainAttrs_tuple PySem.F.slot_tuple_index PySem.F.type_tuple_index (fun a e => by cases e; exact ⟨_, hl, rfl⟩) h
noncomputable def isStrV (nm : Str) : Value → Bool
  | .str a _ => a == nm
  | _ => false
theorem ti_call {Q : Value → Shared → Prop} (hl : s.heap.get? l = some { cls := .type "tuple", dict := none, data := .seq items n, slots := #[] }) (hs : ∀ y, y ∈ items → ∃ a u, y = .str a u) (j : Nat) (hj : j < items.size) (hit : isStrV nm items[j] = true)
    (hno : ∀ m (hm : m < items.size), m < j → isStrV nm items[m] = false) (h : Q (.int j s.toks) { s with toks := s.toks + 1 }) :
    wpAny (model prog w) A (call (.builtin "tuple.index") [.ref l, .str nm t]) Q E s := by
  refine call_meets PySem.F.slot_tuple_index ⟨_, hl, rfl⟩ PySem.F.entry_tuple_index (PySem.F.args_tuple_index_2 _ _) (ti_meets l items n (.str nm t) (isStrV nm) (fun y hy => ?_) j hj hit hno) ⟨hl, h⟩
  obtain ⟨a, u, rfl⟩ := hs y hy
  exact eqGives_str a nm u t
end
end TI0

section A
set_option maxHeartbeats 4000000
set_option maxRecDepth 100000
-- the walk's own lines (local to this text)

section TM1
open PySem PySem.W PyProof.Rows PySem.Calls PySem.Spec
set_option maxRecDepth 100000
set_option maxHeartbeats 2000000

noncomputable def totalOf (σ : St) : Option Addr → Option Int
  | none => some 0
  | some a => (σ.nd a).map Node.total
noncomputable def ownLen (σ : St) (a : Addr) : Option Int := (σ.nd a).bind fun n => (totalOf σ n.left).bind fun l => (totalOf σ n.right).bind fun r => some (n.total - l - r)

section
variable {prog : Program} {w : World} {news R S : Led} {tr dtr : Addr} {σ : St}
theorem lnj1 : True := by
  k_with_none
  (k_with "mine sub" => (first | with_reducible assumption | exact (fun _ h9 => h9) | (intro p9 hp9; repeat (first | exact hp9 | exact List.mem_append_right _ hp9 | exact List.mem_append_left _ hp9 | refine List.mem_cons_of_mem _ ?_))))
  (k_with "mine rep" => (((with_reducible rename Rep _ _ _ _ _ => kG); exact kG)))
  (k_with "mine node" => (first | with_reducible assumption | ((with_reducible rename Rep _ _ _ _ _ => kG); exact HasNode.mono (Rep.nodes kG _ _ (by with_reducible assumption)) (by k_extra "mine sub"))))
  (k_with "mine root" => (first | with_reducible assumption | ((with_reducible rename Rep _ _ _ _ _ => kG); exact HasRoot.mono (Rep.tree kG) (by k_extra "mine sub"))))
  (k_with "mine look" => (first | with_reducible assumption | (refine Eq.trans (if_pos (by with_reducible rfl)) ?_; exact rfl) | (refine Eq.trans (if_neg (by decide)) ?_; k_extra "mine look") | exact rfl))
  (k_with "mine addr" => (first | with_reducible assumption | with_reducible exact rfl | (refine' Eq.trans ?x9_q ?y9_q; (case x9_q => with_reducible assumption); (case y9_q => k_extra "mine addr"))))
  (k_with "mine sweep" => (skip))
  (k_with "mine cut" => (repeat (first | exact Cut.base | apply Cut.cons)))
  (k_with "mine dj" => (first | with_reducible assumption | (repeat (first | with_reducible assumption | refine Dj.cons ?_ ?_))))
  (k_with "mine steps" => (repeat' (first | (k_unfold; (try dsimp only)) | ((fail_if_success (with_reducible show Stop _)); first | walk1 | (dsimp only; walk1) | (leave1; (try dsimp only))) | fail "no step")))
  (k_with "execs nil#" => (((try dsimp only); with_reducible refine wpAny_execs_nil ?_)))
  (k_with "getAttr ref#" => ((k_here; (with_reducible show wpAny _ _ (getAttr (Value.ref _) (Str.ofString "total") _) _ _ _); k_dflt (refine' get_total ?k1_q ?k2_q ?k3_q ?k4_q ?_; (case k1_q => k_asm); (case k2_q => k_asm); (case k3_q => k_asm); (case k4_q => k_extra "mine node"); intro t9))))
  (k_with "getAttr ref#" => ((k_here; (with_reducible show wpAny _ _ (getAttr (Value.ref _) (Str.ofString "plist") _) _ _ _); k_dflt (refine' get_plist ?k1_q ?k2_q ?k3_q ?k4_q ?_; (case k1_q => k_asm); (case k2_q => k_asm); (case k3_q => k_asm); (case k4_q => k_extra "mine node")))))
  (k_with "getAttr ref#" => ((k_here; (with_reducible show wpAny _ _ (getAttr (Value.ref _) (Str.ofString "left") _) _ _ _); k_dflt (first | (refine' get_left_some ?k1_q ?k2_q ?k3_q ?k4_q ?k5_q ?_; (case k1_q => k_asm); (case k2_q => k_asm); (case k3_q => k_asm); (case k4_q => k_extra "mine node"); (case k5_q => with_reducible assumption)) | (refine' get_left_none ?k1_q ?k2_q ?k3_q ?k4_q ?k5_q ?_; (case k1_q => k_asm); (case k2_q => k_asm); (case k3_q => k_asm); (case k4_q => k_extra "mine node"); (case k5_q => with_reducible assumption)) | (refine' get_left ?k1_q ?k2_q ?k3_q ?k4_q ?_; (case k1_q => k_asm); (case k2_q => k_asm); (case k3_q => k_asm); (case k4_q => k_extra "mine node"))))))
  (k_with "getAttr ref#" => ((k_here; (with_reducible show wpAny _ _ (getAttr (Value.ref _) (Str.ofString "right") _) _ _ _); k_dflt (first | (refine' get_right_some ?k1_q ?k2_q ?k3_q ?k4_q ?k5_q ?_; (case k1_q => k_asm); (case k2_q => k_asm); (case k3_q => k_asm); (case k4_q => k_extra "mine node"); (case k5_q => with_reducible assumption)) | (refine' get_right_none ?k1_q ?k2_q ?k3_q ?k4_q ?k5_q ?_; (case k1_q => k_asm); (case k2_q => k_asm); (case k3_q => k_asm); (case k4_q => k_extra "mine node"); (case k5_q => with_reducible assumption)) | (refine' get_right ?k1_q ?k2_q ?k3_q ?k4_q ?_; (case k1_q => k_asm); (case k2_q => k_asm); (case k3_q => k_asm); (case k4_q => k_extra "mine node"))))))
  (k_with "getAttr ref#" => ((k_here; (with_reducible show wpAny _ _ (getAttr (Value.ref _) (Str.ofString "parent") _) _ _ _); k_dflt (first | (refine' get_parent_some ?k1_q ?k2_q ?k3_q ?k4_q ?k5_q ?_; (case k1_q => k_asm); (case k2_q => k_asm); (case k3_q => k_asm); (case k4_q => k_extra "mine node"); (case k5_q => with_reducible assumption)) | (refine' get_parent_none ?k1_q ?k2_q ?k3_q ?k4_q ?k5_q ?_; (case k1_q => k_asm); (case k2_q => k_asm); (case k3_q => k_asm); (case k4_q => k_extra "mine node"); (case k5_q => with_reducible assumption)) | (refine' get_parent ?k1_q ?k2_q ?k3_q ?k4_q ?_; (case k1_q => k_asm); (case k2_q => k_asm); (case k3_q => k_asm); (case k4_q => k_extra "mine node"))))))
  (k_with "getAttr ref#" => ((k_here; (with_reducible show wpAny _ _ (getAttr (Value.ref _) (Str.ofString "root") _) _ _ _); k_dflt (first | (refine' get_root_some ?k1_q ?k2_q ?k3_q ?k4_q ?k5_q ?_; (case k1_q => k_asm); (case k2_q => k_asm); (case k3_q => k_asm); (case k4_q => k_extra "mine root"); (case k5_q => with_reducible assumption)) | (refine' get_root_none ?k1_q ?k2_q ?k3_q ?k4_q ?k5_q ?_; (case k1_q => k_asm); (case k2_q => k_asm); (case k3_q => k_asm); (case k4_q => k_extra "mine root"); (case k5_q => with_reducible assumption)) | (refine' get_root ?k1_q ?k2_q ?k3_q ?k4_q ?_; (case k1_q => k_asm); (case k2_q => k_asm); (case k3_q => k_asm); (case k4_q => k_extra "mine root"))))))
  (k_with "setAttr ref#" => ((k_here; (with_reducible show wpAny _ _ (setAttr (Value.ref _) (Str.ofString "total") _) _ _ _); k_dflt (refine' put_total ?k1_q ?k2_q ?k3_q ?k4_q ?k5_q ?k6_q ?k7_q ?_; (case k1_q => k_asm); (case k2_q => k_asm); (case k3_q => k_asm); (case k6_q => k_extra "mine rep"); (case k4_q => k_extra "mine cut"); (case k5_q => k_extra "mine dj"); (case k7_q => with_reducible assumption); intro h9 S9 F9 N9 a9 j9 G9; (try simp only [List.cons_append] at N9); (try k_sweep); k_extra "mine sweep"))))
  (k_with "setAttr ref#" => ((k_here; (with_reducible show wpAny _ _ (setAttr (Value.ref _) (Str.ofString "left") _) _ _ _); k_dflt (first | ((with_reducible show wpAny _ _ (setAttr (Value.ref _) (Str.ofString "left") (Value.ref _)) _ _ _); refine' put_left (v := some _) ?k1_q ?k2_q ?k3_q ?k4_q ?k5_q ?k6_q ?k7_q ?_; (case k1_q => k_asm); (case k2_q => k_asm); (case k3_q => k_asm); (case k6_q => k_extra "mine rep"); (case k4_q => k_extra "mine cut"); (case k5_q => k_extra "mine dj"); (case k7_q => with_reducible assumption); intro h9 S9 F9 N9 a9 j9 G9; (try simp only [List.cons_append] at N9); (try k_sweep); k_extra "mine sweep") | ((with_reducible show wpAny _ _ (setAttr (Value.ref _) (Str.ofString "left") Value.none) _ _ _); refine' put_left (v := none) ?k1_q ?k2_q ?k3_q ?k4_q ?k5_q ?k6_q ?k7_q ?_; (case k1_q => k_asm); (case k2_q => k_asm); (case k3_q => k_asm); (case k6_q => k_extra "mine rep"); (case k4_q => k_extra "mine cut"); (case k5_q => k_extra "mine dj"); (case k7_q => with_reducible assumption); intro h9 S9 F9 N9 a9 j9 G9; (try simp only [List.cons_append] at N9); (try k_sweep); k_extra "mine sweep") | ((with_reducible show wpAny _ _ (setAttr (Value.ref _) (Str.ofString "left") (optV _)) _ _ _); refine' put_left (v := _) ?k1_q ?k2_q ?k3_q ?k4_q ?k5_q ?k6_q ?k7_q ?_; (case k1_q => k_asm); (case k2_q => k_asm); (case k3_q => k_asm); (case k6_q => k_extra "mine rep"); (case k4_q => k_extra "mine cut"); (case k5_q => k_extra "mine dj"); (case k7_q => with_reducible assumption); intro h9 S9 F9 N9 a9 j9 G9; (try simp only [List.cons_append] at N9); (try k_sweep); k_extra "mine sweep")))))
  (k_with "setAttr ref#" => ((k_here; (with_reducible show wpAny _ _ (setAttr (Value.ref _) (Str.ofString "right") _) _ _ _); k_dflt (first | ((with_reducible show wpAny _ _ (setAttr (Value.ref _) (Str.ofString "right") (Value.ref _)) _ _ _); refine' put_right (v := some _) ?k1_q ?k2_q ?k3_q ?k4_q ?k5_q ?k6_q ?k7_q ?_; (case k1_q => k_asm); (case k2_q => k_asm); (case k3_q => k_asm); (case k6_q => k_extra "mine rep"); (case k4_q => k_extra "mine cut"); (case k5_q => k_extra "mine dj"); (case k7_q => with_reducible assumption); intro h9 S9 F9 N9 a9 j9 G9; (try simp only [List.cons_append] at N9); (try k_sweep); k_extra "mine sweep") | ((with_reducible show wpAny _ _ (setAttr (Value.ref _) (Str.ofString "right") Value.none) _ _ _); refine' put_right (v := none) ?k1_q ?k2_q ?k3_q ?k4_q ?k5_q ?k6_q ?k7_q ?_; (case k1_q => k_asm); (case k2_q => k_asm); (case k3_q => k_asm); (case k6_q => k_extra "mine rep"); (case k4_q => k_extra "mine cut"); (case k5_q => k_extra "mine dj"); (case k7_q => with_reducible assumption); intro h9 S9 F9 N9 a9 j9 G9; (try simp only [List.cons_append] at N9); (try k_sweep); k_extra "mine sweep") | ((with_reducible show wpAny _ _ (setAttr (Value.ref _) (Str.ofString "right") (optV _)) _ _ _); refine' put_right (v := _) ?k1_q ?k2_q ?k3_q ?k4_q ?k5_q ?k6_q ?k7_q ?_; (case k1_q => k_asm); (case k2_q => k_asm); (case k3_q => k_asm); (case k6_q => k_extra "mine rep"); (case k4_q => k_extra "mine cut"); (case k5_q => k_extra "mine dj"); (case k7_q => with_reducible assumption); intro h9 S9 F9 N9 a9 j9 G9; (try simp only [List.cons_append] at N9); (try k_sweep); k_extra "mine sweep")))))
  (k_with "setAttr ref#" => ((k_here; (with_reducible show wpAny _ _ (setAttr (Value.ref _) (Str.ofString "parent") _) _ _ _); k_dflt (first | ((with_reducible show wpAny _ _ (setAttr (Value.ref _) (Str.ofString "parent") (Value.ref _)) _ _ _); refine' put_parent (v := some _) ?k1_q ?k2_q ?k3_q ?k4_q ?k5_q ?k6_q ?k7_q ?_; (case k1_q => k_asm); (case k2_q => k_asm); (case k3_q => k_asm); (case k6_q => k_extra "mine rep"); (case k4_q => k_extra "mine cut"); (case k5_q => k_extra "mine dj"); (case k7_q => with_reducible assumption); intro h9 S9 F9 N9 a9 j9 G9; (try simp only [List.cons_append] at N9); (try k_sweep); k_extra "mine sweep") | ((with_reducible show wpAny _ _ (setAttr (Value.ref _) (Str.ofString "parent") Value.none) _ _ _); refine' put_parent (v := none) ?k1_q ?k2_q ?k3_q ?k4_q ?k5_q ?k6_q ?k7_q ?_; (case k1_q => k_asm); (case k2_q => k_asm); (case k3_q => k_asm); (case k6_q => k_extra "mine rep"); (case k4_q => k_extra "mine cut"); (case k5_q => k_extra "mine dj"); (case k7_q => with_reducible assumption); intro h9 S9 F9 N9 a9 j9 G9; (try simp only [List.cons_append] at N9); (try k_sweep); k_extra "mine sweep") | ((with_reducible show wpAny _ _ (setAttr (Value.ref _) (Str.ofString "parent") (optV _)) _ _ _); refine' put_parent (v := _) ?k1_q ?k2_q ?k3_q ?k4_q ?k5_q ?k6_q ?k7_q ?_; (case k1_q => k_asm); (case k2_q => k_asm); (case k3_q => k_asm); (case k6_q => k_extra "mine rep"); (case k4_q => k_extra "mine cut"); (case k5_q => k_extra "mine dj"); (case k7_q => with_reducible assumption); intro h9 S9 F9 N9 a9 j9 G9; (try simp only [List.cons_append] at N9); (try k_sweep); k_extra "mine sweep")))))
  (k_with "setAttr ref#" => ((k_here; (with_reducible show wpAny _ _ (setAttr (Value.ref _) (Str.ofString "root") _) _ _ _); k_dflt (first | ((with_reducible show wpAny _ _ (setAttr (Value.ref _) (Str.ofString "root") (Value.ref _)) _ _ _); refine' put_root (v := some _) ?k1_q ?k2_q ?k3_q ?k4_q ?k5_q ?k6_q ?_; (case k1_q => k_asm); (case k2_q => k_asm); (case k3_q => k_asm); (case k6_q => k_extra "mine rep"); (case k4_q => k_extra "mine cut"); (case k5_q => k_extra "mine dj"); intro h9 S9 F9 N9 a9 j9 G9; (try simp only [List.cons_append] at N9); (try k_sweep); k_extra "mine sweep") | ((with_reducible show wpAny _ _ (setAttr (Value.ref _) (Str.ofString "root") Value.none) _ _ _); refine' put_root (v := none) ?k1_q ?k2_q ?k3_q ?k4_q ?k5_q ?k6_q ?_; (case k1_q => k_asm); (case k2_q => k_asm); (case k3_q => k_asm); (case k6_q => k_extra "mine rep"); (case k4_q => k_extra "mine cut"); (case k5_q => k_extra "mine dj"); intro h9 S9 F9 N9 a9 j9 G9; (try simp only [List.cons_append] at N9); (try k_sweep); k_extra "mine sweep") | ((with_reducible show wpAny _ _ (setAttr (Value.ref _) (Str.ofString "root") (optV _)) _ _ _); refine' put_root (v := _) ?k1_q ?k2_q ?k3_q ?k4_q ?k5_q ?k6_q ?_; (case k1_q => k_asm); (case k2_q => k_asm); (case k3_q => k_asm); (case k6_q => k_extra "mine rep"); (case k4_q => k_extra "mine cut"); (case k5_q => k_extra "mine dj"); intro h9 S9 F9 N9 a9 j9 G9; (try simp only [List.cons_append] at N9); (try k_sweep); k_extra "mine sweep")))))
  (k_with "LoopPost#" => ((first | refine loopPost_ret ?_ | refine loopPost_brk ?_)))
  (k_with "LoopJ#" => ((first | refine loopJ_ret ?_ | refine loopJ_brk ?_)))
  (k_with "mine all" => (first | exact allLt_ne (by with_reducible assumption) | exact allLt_ne (allLt_addr (by with_reducible assumption) (by with_reducible assumption))))
  (k_with "mine drop" => (first | k_asm | ((with_reducible rename News _ _ _ _ => kN9); exact fun p9 hp9 => kN9 p9 (by repeat (first | exact hp9 | refine List.mem_cons_of_mem _ ?_)))))
  (k_with "call builtin:list.pop#" => ((k_here; (with_reducible show wpAny _ _ (call (Value.builtin "list.pop") [Value.ref _] _) _ _ _); k_dflt (refine' my_pop ?F_q ?N_q ?U_q ?z_q ?_; (case F_q => k_asm); (case N_q => k_asm); (case U_q => k_upd); (case z_q => first | with_reducible assumption | (first | lia | omega) | (simp; (first | lia | omega)) | (simp; done)); intro h9 F9 N9; (try k_sweep)))))
  (k_with "call builtin:list.extend#" => ((k_here; (with_reducible show wpAny _ _ (call (Value.builtin "list.extend") [Value.ref _, Value.ref _] _) _ _ _); k_dflt (refine' my_extend ?F_q ?N_q ?b_q ?ne_q ?U_q ?z_q ?_; (case F_q => k_asm); (case N_q => k_asm); (case b_q => k_mem); (case U_q => k_upd); (case ne_q => simp); (case z_q => first | with_reducible assumption | (first | lia | omega) | (simp; (first | lia | omega)) | (simp; done)); intro h9 F9 N9; (try k_sweep)))))
  (k_with "call builtin:len#" => ((k_here; (with_reducible show wpAny _ _ (call (Value.builtin "len") [Value.ref _] _) _ _ _); k_dflt (refine' my_len ?N_q ?m_q ?k_q ?z_q ?_; (case N_q => k_asm); (case m_q => first | k_mem | with_reducible assumption); (case k_q => with_reducible assumption); (case z_q => first | with_reducible assumption | (first | lia | omega)); intro t9))))
  (k_with "WhlIf#" => ((first | refine WhlIf.yes (decide_eq_true (by (first | lia | omega))) ?_ | refine WhlIf.no (decide_eq_false (by (first | lia | omega))) ?_)))
  (k_with "mine drop1" => (((with_reducible rename News _ _ _ _ => kN9); exact fun p9 hp9 => kN9 p9 (List.mem_cons_of_mem _ hp9))))
  (k_with "exec While#" => ((refine whl_stop ?_)))
  (k_with "exec While Compare#" => ((refine whl_stop ?_)))
  (k_with "exec While BoolOp#" => ((refine whl_stop ?_)))
  (k_with "exec While Constant#" => ((refine whl_stop ?_)))
  (k_with "eval Name#" => ((k_here; (refine' nameX_L ?F_q ?v_q ?_ ?a_q ?b_q; (case F_q => with_reducible assumption); (case a_q => exact rfl); (case b_q => exact rfl); (case v_q => k_extra "mine look"); k_whole))))
  (k_with "compareOp Is ref ref#" => ((k_here; k_dflt (refine' is_nodes ?k1_q ?k2_q ?k3_q ?k4_q ?_; (case k1_q => k_asm); (case k2_q => k_extra "mine node"); (case k3_q => k_extra "mine node"); (case k4_q => with_reducible assumption)))))
  (k_with "execs cons#" => ((k_here; (try dsimp only); first | k_gentoks | k_made | with_reducible refine kq_cons ?_)))
  (k_with "KQ#" => ((with_reducible first | refine kq_next ?_ | refine kq_ret ?_ | refine kq_brk ?_ | refine kq_cont ?_)))
  trivial
theorem total_of_ok {v : Option Addr} {k : Int} (G : Rep w.params tr dtr S σ) (e : totalOf σ v = some k) (sub : ∀ p ∈ S, p ∈ news) : FnR prog w 1 70 [optV v] news (fun r => ∃ t, r = .int k t) := by
  cases v with
  | none =>
    cases e
    (first | with_reducible refine FnR.intro ?_ | with_reducible refine FnX.intro ?_ | with_reducible refine FnM.intro ?_ | with_reducible refine @Mine.FnS.intro _ _ _ _ _ _ _ _ _ _ ?_)
    intro p loose mean mg mb dp un gd cn cs a9 ccd cl outer A₀ base h₀ L m hp gn dr tk0 os Q E B X T hk F N hd hu hret
    dsimp only [optV]
    refine enter [(Str.ofString "node", .none)] B F X N T rfl rfl hk (by k_is) (by k_is) (by ((conv => lhs; whnf); all_goals exact rfl)) (by ((conv => lhs; whnf); all_goals exact rfl)) (by ktr_room) (BindsTo.of_eq rfl) (locs rfl) ?_ rfl rfl rfl (by decide)
    intro g' L' h' FG' F' N' B' X' T'
    (try dsimp only)
    (try k_fold)
    refine fold_A ?_
    intro en9 ak9 hAu9
    have S9 : Site w ak9 (dp + 1) (un + 3) g' L' := Site.mk B' X' T' rfl
    k_extra "mine steps"
    first | exact hret _ _ _ (by k_asm) (by k_extra "mine drop") ⟨_, rfl⟩ | w_report
  | some a =>
    obtain ⟨n, hn, rfl⟩ := Option.map_eq_some_iff.mp e
    have H := HasNode.mono (G.nodes a n hn) sub
    (first | with_reducible refine FnR.intro ?_ | with_reducible refine FnX.intro ?_ | with_reducible refine FnM.intro ?_ | with_reducible refine @Mine.FnS.intro _ _ _ _ _ _ _ _ _ _ ?_)
    intro p loose mean mg mb dp un gd cn cs a9 ccd cl outer A₀ base h₀ L m hp gn dr tk0 os Q E B X T hk F N hd hu hret
    dsimp only [optV]
    refine enter [(Str.ofString "node", .ref a)] B F X N T rfl rfl hk (by k_is) (by k_is) (by ((conv => lhs; whnf); all_goals exact rfl)) (by ((conv => lhs; whnf); all_goals exact rfl)) (by ktr_room) (BindsTo.of_eq rfl) (locs rfl) ?_ rfl rfl rfl (by decide)
    intro g' L' h' FG' F' N' B' X' T'
    (try dsimp only)
    (try k_fold)
    refine fold_A ?_
    intro en9 ak9 hAu9
    have S9 : Site w ak9 (dp + 1) (un + 3) g' L' := Site.mk B' X' T' rfl
    k_extra "mine steps"
    first | exact hret _ _ _ (by k_asm) (by k_extra "mine drop") ⟨_, rfl⟩ | w_report
theorem lnj2 : True := by
  (k_with "call ref#" => ((fail_if_success k_extra "off j1"); (k_here; (with_reducible show wpAny _ _ (call (Value.ref 70) _ _) _ _ _); k_dflt ((first | ((with_reducible show wpAny _ _ (call (Value.ref 70) [Value.ref _] _) _ _ _); refine' FnR.useI (total_of_ok (v := some _) ?g_q ?e_q ?sub_q ) ?S_q ?F_q ?N_q ?hd_q ?hu_q ?_) | ((with_reducible show wpAny _ _ (call (Value.ref 70) [Value.none] _) _ _ _); refine' FnR.useI (total_of_ok (v := none) ?g_q ?e_q ?sub_q ) ?S_q ?F_q ?N_q ?hd_q ?hu_q ?_) | (refine' FnR.useI (total_of_ok  ?g_q ?e_q ?sub_q ) ?S_q ?F_q ?N_q ?hd_q ?hu_q ?_)); (case g_q => k_extra "mine rep"); (case N_q => k_asm); (case e_q => with_reducible assumption); (case sub_q => k_extra "mine sub"); (case S_q => first | with_reducible assumption | exact Site.mk (by k_asm) (by k_asm) (by k_asm) (by first | exact rfl | with_reducible assumption)); (case F_q => k_asm); (case hd_q => first | exact room (by with_reducible assumption) rfl | ktr_room); (case hu_q => first | exact unitsL (by with_reducible assumption) rfl | ktr_units); intro h9 tk9 F9 N9 t9; (try k_sweep)))))
  trivial
theorem own_length_ok {a : Addr} {k : Int} (G : Rep w.params tr dtr S σ) (e : ownLen σ a = some k) (sub : ∀ p ∈ S, p ∈ news) : FnR prog w 2 77 [.ref a] news (fun r => ∃ t, r = .int k t) := by
  simp only [ownLen, Option.bind_eq_some_iff] at e
  obtain ⟨n, hn, l, hl, r, hr, e⟩ := e
  have H := HasNode.mono (G.nodes a n hn) sub
  cases e
  (first | with_reducible refine FnR.intro ?_ | with_reducible refine FnX.intro ?_ | with_reducible refine FnM.intro ?_ | with_reducible refine @Mine.FnS.intro _ _ _ _ _ _ _ _ _ _ ?_)
  intro p loose mean mg mb dp un gd cn cs a9 ccd cl outer A₀ base h₀ L m hp gn dr tk0 os Q E B X T hk F N hd hu hret
  refine enter [(Str.ofString "node", .ref a)] B F X N T rfl rfl hk (by k_is) (by k_is) (by ((conv => lhs; whnf); all_goals exact rfl)) (by ((conv => lhs; whnf); all_goals exact rfl)) (by ktr_room) (BindsTo.of_eq rfl) (locs rfl) ?_ rfl rfl rfl (by decide)
  intro g' L' h' FG' F' N' B' X' T'
  (try dsimp only)
  (try k_fold)
  refine fold_A ?_
  intro en9 ak9 hAu9
  have S9 : Site w ak9 (dp + 1) (un + 3) g' L' := Site.mk B' X' T' rfl
  k_extra "mine steps"
  first | exact hret _ _ _ (by k_asm) (by k_extra "mine drop") ⟨_, rfl⟩ | w_report
theorem text_length_ok {k : Int} (G : Rep w.params tr dtr S σ) (e : totalOf σ σ.root = some k) (sub : ∀ p ∈ S, p ∈ news) : FnR prog w 2 84 [.ref tr] news (fun r => ∃ t, r = .int k t) := by
  have H := HasRoot.mono G.tree sub
  (first | with_reducible refine FnR.intro ?_ | with_reducible refine FnX.intro ?_ | with_reducible refine FnM.intro ?_ | with_reducible refine @Mine.FnS.intro _ _ _ _ _ _ _ _ _ _ ?_)
  intro p loose mean mg mb dp un gd cn cs a9 ccd cl outer A₀ base h₀ L m hp gn dr tk0 os Q E B X T hk F N hd hu hret
  refine enter [(Str.ofString "tree", .ref tr)] B F X N T rfl rfl hk (by k_is) (by k_is) (by ((conv => lhs; whnf); all_goals exact rfl)) (by ((conv => lhs; whnf); all_goals exact rfl)) (by ktr_room) (BindsTo.of_eq rfl) (locs rfl) ?_ rfl rfl rfl (by decide)
  intro g' L' h' FG' F' N' B' X' T'
  (try dsimp only)
  (try k_fold)
  refine fold_A ?_
  intro en9 ak9 hAu9
  have S9 : Site w ak9 (dp + 1) (un + 3) g' L' := Site.mk B' X' T' rfl
  k_extra "mine steps"
  first | exact hret _ _ _ (by k_asm) (by k_extra "mine drop") ⟨_, rfl⟩ | w_report

noncomputable def helpsR (σ : St) (a : Addr) : Option Bool := (σ.nd a).bind fun n => (totalOf σ n.left).bind fun ts => (totalOf σ n.right).bind fun r =>
  if ts - r ≤ 0 then some false else n.left.bind fun son => (σ.nd son).bind fun s => (totalOf σ s.left).bind fun sl => (totalOf σ s.right).bind fun sr =>
    some (decide ((if sl - (n.total - s.total + sr) < 0 then -(sl - (n.total - s.total + sr)) else sl - (n.total - s.total + sr)) < ts - r))
noncomputable def helpsL (σ : St) (a : Addr) : Option Bool := (σ.nd a).bind fun n => (totalOf σ n.right).bind fun ts => (totalOf σ n.left).bind fun l =>
  if ts - l ≤ 0 then some false else n.right.bind fun son => (σ.nd son).bind fun s => (totalOf σ s.right).bind fun sr => (totalOf σ s.left).bind fun sl =>
    some (decide ((if sr - (n.total - s.total + sl) < 0 then -(sr - (n.total - s.total + sl)) else sr - (n.total - s.total + sl)) < ts - l))
theorem right_turn_helps_ok {a : Addr} {b : Bool} (G : Rep w.params tr dtr S σ) (e : helpsR σ a = some b) (sub : ∀ p ∈ S, p ∈ news) : FnR prog w 2 126 [.ref a] news (fun r => r = .bool b) := by
  simp only [helpsR, Option.bind_eq_some_iff] at e
  obtain ⟨n, hn, ts, hl, r, hr, e⟩ := e
  have H := HasNode.mono (G.nodes a n hn) sub
  split at e
  · cases e
    (first | with_reducible refine FnR.intro ?_ | with_reducible refine FnX.intro ?_ | with_reducible refine FnM.intro ?_ | with_reducible refine @Mine.FnS.intro _ _ _ _ _ _ _ _ _ _ ?_)
    intro p loose mean mg mb dp un gd cn cs a9 ccd cl outer A₀ base h₀ L m hp gn dr tk0 os Q E B X T hk F N hd hu hret
    refine enter [(Str.ofString "node", .ref a)] B F X N T rfl rfl hk (by k_is) (by k_is) (by ((conv => lhs; whnf); all_goals exact rfl)) (by ((conv => lhs; whnf); all_goals exact rfl)) (by ktr_room) (BindsTo.of_eq rfl) (locs rfl) ?_ rfl rfl rfl (by decide)
    intro g' L' h' FG' F' N' B' X' T'
    (try dsimp only)
    (try k_fold)
    refine fold_A ?_
    intro en9 ak9 hAu9
    have S9 : Site w ak9 (dp + 1) (un + 3) g' L' := Site.mk B' X' T' rfl
    k_extra "mine steps"
    first | exact hret _ _ _ (by k_asm) (by k_extra "mine drop") rfl | w_report
  · simp only [Option.bind_eq_some_iff] at e
    obtain ⟨son, hson, s0, hs0, sl, hsl, sr, hsr, e⟩ := e
    cases e
    have H2 := HasNode.mono (G.nodes son s0 hs0) sub
    rw [hson] at hl
    (first | with_reducible refine FnR.intro ?_ | with_reducible refine FnX.intro ?_ | with_reducible refine FnM.intro ?_ | with_reducible refine @Mine.FnS.intro _ _ _ _ _ _ _ _ _ _ ?_)
    intro p loose mean mg mb dp un gd cn cs a9 ccd cl outer A₀ base h₀ L m hp gn dr tk0 os Q E B X T hk F N hd hu hret
    refine enter [(Str.ofString "node", .ref a)] B F X N T rfl rfl hk (by k_is) (by k_is) (by ((conv => lhs; whnf); all_goals exact rfl)) (by ((conv => lhs; whnf); all_goals exact rfl)) (by ktr_room) (BindsTo.of_eq rfl) (locs rfl) ?_ rfl rfl rfl (by decide)
    intro g' L' h' FG' F' N' B' X' T'
    (try dsimp only)
    (try k_fold)
    refine fold_A ?_
    intro en9 ak9 hAu9
    have S9 : Site w ak9 (dp + 1) (un + 3) g' L' := Site.mk B' X' T' rfl
    k_extra "mine steps"
    first | exact hret _ _ _ (by k_asm) (by k_extra "mine drop") rfl | w_report
theorem left_turn_helps_ok {a : Addr} {b : Bool} (G : Rep w.params tr dtr S σ) (e : helpsL σ a = some b) (sub : ∀ p ∈ S, p ∈ news) : FnR prog w 2 133 [.ref a] news (fun r => r = .bool b) := by
  simp only [helpsL, Option.bind_eq_some_iff] at e
  obtain ⟨n, hn, ts, hl, r, hr, e⟩ := e
  have H := HasNode.mono (G.nodes a n hn) sub
  split at e
  · cases e
    (first | with_reducible refine FnR.intro ?_ | with_reducible refine FnX.intro ?_ | with_reducible refine FnM.intro ?_ | with_reducible refine @Mine.FnS.intro _ _ _ _ _ _ _ _ _ _ ?_)
    intro p loose mean mg mb dp un gd cn cs a9 ccd cl outer A₀ base h₀ L m hp gn dr tk0 os Q E B X T hk F N hd hu hret
    refine enter [(Str.ofString "node", .ref a)] B F X N T rfl rfl hk (by k_is) (by k_is) (by ((conv => lhs; whnf); all_goals exact rfl)) (by ((conv => lhs; whnf); all_goals exact rfl)) (by ktr_room) (BindsTo.of_eq rfl) (locs rfl) ?_ rfl rfl rfl (by decide)
    intro g' L' h' FG' F' N' B' X' T'
    (try dsimp only)
    (try k_fold)
    refine fold_A ?_
    intro en9 ak9 hAu9
    have S9 : Site w ak9 (dp + 1) (un + 3) g' L' := Site.mk B' X' T' rfl
    k_extra "mine steps"
    first | exact hret _ _ _ (by k_asm) (by k_extra "mine drop") rfl | w_report
  · simp only [Option.bind_eq_some_iff] at e
    obtain ⟨son, hson, s0, hs0, sr, hsr, sl, hsl, e⟩ := e
    cases e
    have H2 := HasNode.mono (G.nodes son s0 hs0) sub
    rw [hson] at hl
    (first | with_reducible refine FnR.intro ?_ | with_reducible refine FnX.intro ?_ | with_reducible refine FnM.intro ?_ | with_reducible refine @Mine.FnS.intro _ _ _ _ _ _ _ _ _ _ ?_)
    intro p loose mean mg mb dp un gd cn cs a9 ccd cl outer A₀ base h₀ L m hp gn dr tk0 os Q E B X T hk F N hd hu hret
    refine enter [(Str.ofString "node", .ref a)] B F X N T rfl rfl hk (by k_is) (by k_is) (by ((conv => lhs; whnf); all_goals exact rfl)) (by ((conv => lhs; whnf); all_goals exact rfl)) (by ktr_room) (BindsTo.of_eq rfl) (locs rfl) ?_ rfl rfl rfl (by decide)
    intro g' L' h' FG' F' N' B' X' T'
    (try dsimp only)
    (try k_fold)
    refine fold_A ?_
    intro en9 ak9 hAu9
    have S9 : Site w ak9 (dp + 1) (un + 3) g' L' := Site.mk B' X' T' rfl
    k_extra "mine steps"
    first | exact hret _ _ _ (by k_asm) (by k_extra "mine drop") rfl | w_report

noncomputable def leftmostF : Nat → St → Addr → Option Addr
  | 0, _, _ => none
  | k + 1, σ, a => (σ.nd a).bind fun n => match n.left with
    | none => some a
    | some b => leftmostF k σ b
noncomputable def rightmostF : Nat → St → Addr → Option Addr
  | 0, _, _ => none
  | k + 1, σ, a => (σ.nd a).bind fun n => match n.right with
    | none => some a
    | some b => rightmostF k σ b
inductive LmI (σ : St) (r b : Addr) (k : Nat) : Prop
  | stop (n : Node) (hn : σ.nd b = some n) (hl : n.left = none) (hr : r = b)
  | on (n : Node) (c : Addr) (k0 : Nat) (lt : k0 < k) (hn : σ.nd b = some n) (hl : n.left = some c) (e : leftmostF k0 σ c = some r)
theorem LmI.of {σ : St} {r b : Addr} {k : Nat} (e : leftmostF k σ b = some r) : LmI σ r b k := by
  cases k with
  | zero => cases e
  | succ k =>
    simp only [leftmostF, Option.bind_eq_some_iff] at e
    obtain ⟨n, hn, e⟩ := e
    split at e
    · rename_i hl; cases e; exact .stop n hn hl rfl
    · rename_i c hl; exact .on n c k (Nat.lt_succ_self k) hn hl e
inductive RmI (σ : St) (r b : Addr) (k : Nat) : Prop
  | stop (n : Node) (hn : σ.nd b = some n) (hl : n.right = none) (hr : r = b)
  | on (n : Node) (c : Addr) (k0 : Nat) (lt : k0 < k) (hn : σ.nd b = some n) (hl : n.right = some c) (e : rightmostF k0 σ c = some r)
theorem RmI.of {σ : St} {r b : Addr} {k : Nat} (e : rightmostF k σ b = some r) : RmI σ r b k := by
  cases k with
  | zero => cases e
  | succ k =>
    simp only [rightmostF, Option.bind_eq_some_iff] at e
    obtain ⟨n, hn, e⟩ := e
    split at e
    · rename_i hl; cases e; exact .stop n hn hl rfl
    · rename_i c hl; exact .on n c k (Nat.lt_succ_self k) hn hl e
inductive LmJ (σ : St) (r : Addr) (news : Led) (k : Nat) (m : Str → Option Value) (nx : Led) : Prop
  | mk (a : Addr) (e : leftmostF k σ a = some r) (hm : m (Str.ofString "node") = some (.ref a)) (hn : news = nx)
inductive RmJ (σ : St) (r : Addr) (news : Led) (k : Nat) (m : Str → Option Value) (nx : Led) : Prop
  | mk (a : Addr) (e : rightmostF k σ a = some r) (hm : m (Str.ofString "node") = some (.ref a)) (hn : news = nx)
theorem leftmost_ok {k : Nat} {a r : Addr} (G : Rep w.params tr dtr S σ) (e : leftmostF k σ a = some r) (sub : ∀ p ∈ S, p ∈ news) : FnR prog w 1 168 [.ref a] news (fun v => v = .ref r) := by
  (first | with_reducible refine FnR.intro ?_ | with_reducible refine FnX.intro ?_ | with_reducible refine FnM.intro ?_ | with_reducible refine @Mine.FnS.intro _ _ _ _ _ _ _ _ _ _ ?_)
  intro p loose mean mg mb dp un gd cn cs a9 ccd cl outer A₀ base h₀ L m hp gn dr tk0 os Q E B X T hk F N hd hu hret
  refine enter [(Str.ofString "node", .ref a)] B F X N T rfl rfl hk (by k_is) (by k_is) (by ((conv => lhs; whnf); all_goals exact rfl)) (by ((conv => lhs; whnf); all_goals exact rfl)) (by ktr_room) (BindsTo.of_eq rfl) (locs rfl) ?_ rfl rfl rfl (by decide)
  intro g' L' h' FG' F' N' B' X' T'
  (try dsimp only)
  (try k_fold)
  refine fold_A ?_
  intro en9 ak9 hAu9
  have S9 : Site w ak9 (dp + 1) (un + 3) g' L' := Site.mk B' X' T' rfl
  k_extra "mine steps"
  refine whl_J (LmJ σ r news) F' N' k ⟨a, e, rfl, rfl⟩ ?_
  clear e F' N'
  intro P9
  rintro k m₁ nx h tk G9 g9 ⟨b, e, hm, rfl⟩ F' N'
  rcases LmI.of e with ⟨n, hn, hl, rfl⟩ | ⟨n, c, k0, lt, hn, hl, e⟩
  · have H := HasNode.mono (G.nodes _ n hn) sub
    refine g9 ?_
    k_extra "mine steps"
    first | exact hret _ _ _ (by k_asm) (by k_extra "mine drop") rfl | w_report
  · have H := HasNode.mono (G.nodes b n hn) sub
    refine g9 ?_
    k_extra "mine steps"
    exact LoopJ.again (by k_asm) (by k_asm) lt ⟨c, e, rfl, rfl⟩
theorem rightmost_ok {k : Nat} {a r : Addr} (G : Rep w.params tr dtr S σ) (e : rightmostF k σ a = some r) (sub : ∀ p ∈ S, p ∈ news) : FnR prog w 1 175 [.ref a] news (fun v => v = .ref r) := by
  (first | with_reducible refine FnR.intro ?_ | with_reducible refine FnX.intro ?_ | with_reducible refine FnM.intro ?_ | with_reducible refine @Mine.FnS.intro _ _ _ _ _ _ _ _ _ _ ?_)
  intro p loose mean mg mb dp un gd cn cs a9 ccd cl outer A₀ base h₀ L m hp gn dr tk0 os Q E B X T hk F N hd hu hret
  refine enter [(Str.ofString "node", .ref a)] B F X N T rfl rfl hk (by k_is) (by k_is) (by ((conv => lhs; whnf); all_goals exact rfl)) (by ((conv => lhs; whnf); all_goals exact rfl)) (by ktr_room) (BindsTo.of_eq rfl) (locs rfl) ?_ rfl rfl rfl (by decide)
  intro g' L' h' FG' F' N' B' X' T'
  (try dsimp only)
  (try k_fold)
  refine fold_A ?_
  intro en9 ak9 hAu9
  have S9 : Site w ak9 (dp + 1) (un + 3) g' L' := Site.mk B' X' T' rfl
  k_extra "mine steps"
  refine whl_J (RmJ σ r news) F' N' k ⟨a, e, rfl, rfl⟩ ?_
  clear e F' N'
  intro P9
  rintro k m₁ nx h tk G9 g9 ⟨b, e, hm, rfl⟩ F' N'
  rcases RmI.of e with ⟨n, hn, hl, rfl⟩ | ⟨n, c, k0, lt, hn, hl, e⟩
  · have H := HasNode.mono (G.nodes _ n hn) sub
    refine g9 ?_
    k_extra "mine steps"
    first | exact hret _ _ _ (by k_asm) (by k_extra "mine drop") rfl | w_report
  · have H := HasNode.mono (G.nodes b n hn) sub
    refine g9 ?_
    k_extra "mine steps"
    exact LoopJ.again (by k_asm) (by k_asm) lt ⟨c, e, rfl, rfl⟩

noncomputable def climbR : Nat → St → Addr → Option (Option Addr)
  | 0, _, _ => none
  | k + 1, σ, a => (σ.nd a).bind fun n => match n.parent with
    | none => some none
    | some q => (σ.nd q).bind fun m => if m.right = some a then climbR k σ q else match m.right with
      | none => some (some q)
      | some x => (σ.nd x).bind fun _ => some (some q)
noncomputable def climbL : Nat → St → Addr → Option (Option Addr)
  | 0, _, _ => none
  | k + 1, σ, a => (σ.nd a).bind fun n => match n.parent with
    | none => some none
    | some q => (σ.nd q).bind fun m => if m.left = some a then climbL k σ q else match m.left with
      | none => some (some q)
      | some x => (σ.nd x).bind fun _ => some (some q)
noncomputable def followingF (k : Nat) (σ : St) (a : Addr) : Option (Option Addr) := (σ.nd a).bind fun n => match n.right with
  | some b => (leftmostF k σ b).map some
  | none => climbR k σ a
noncomputable def precedingF (k : Nat) (σ : St) (a : Addr) : Option (Option Addr) := (σ.nd a).bind fun n => match n.left with
  | some b => (rightmostF k σ b).map some
  | none => climbL k σ a
inductive CrI (σ : St) (r : Option Addr) (b : Addr) (k : Nat) : Prop
  | top (n : Node) (hn : σ.nd b = some n) (hl : n.parent = none) (hr : r = none)
  | on (n n2 : Node) (q : Addr) (k0 : Nat) (lt : k0 < k) (hn : σ.nd b = some n) (hl : n.parent = some q) (hn2 : σ.nd q = some n2) (h2 : n2.right = some b) (e : climbR k0 σ q = some r)
  | bare (n n2 : Node) (q : Addr) (hn : σ.nd b = some n) (hl : n.parent = some q) (hn2 : σ.nd q = some n2) (h3 : n2.right = none) (hr : r = some q)
  | off (n n2 n3 : Node) (q x : Addr) (hn : σ.nd b = some n) (hl : n.parent = some q) (hn2 : σ.nd q = some n2) (h3 : n2.right = some x) (hn3 : σ.nd x = some n3) (h4 : x ≠ b) (hr : r = some q)
theorem lnj3 : True := by
  (k_with "call ref#" => ((fail_if_success k_extra "off j1"); (k_here; (with_reducible show wpAny _ _ (call (Value.ref 168) _ _) _ _ _); k_dflt ((first | (refine' FnR.useV (leftmost_ok  ?g_q ?e_q ?sub_q ) ?S_q ?F_q ?N_q ?hd_q ?hu_q ?_)); (case g_q => k_extra "mine rep"); (case N_q => k_asm); (case e_q => with_reducible assumption); (case sub_q => k_extra "mine sub"); (case S_q => first | with_reducible assumption | exact Site.mk (by k_asm) (by k_asm) (by k_asm) (by first | exact rfl | with_reducible assumption)); (case F_q => k_asm); (case hd_q => first | exact room (by with_reducible assumption) rfl | ktr_room); (case hu_q => first | exact unitsL (by with_reducible assumption) rfl | ktr_units); intro h9 tk9 F9 N9; (try k_sweep)))))
  (k_with "call ref#" => ((fail_if_success k_extra "off j1"); (k_here; (with_reducible show wpAny _ _ (call (Value.ref 175) _ _) _ _ _); k_dflt ((first | (refine' FnR.useV (rightmost_ok  ?g_q ?e_q ?sub_q ) ?S_q ?F_q ?N_q ?hd_q ?hu_q ?_)); (case g_q => k_extra "mine rep"); (case N_q => k_asm); (case e_q => with_reducible assumption); (case sub_q => k_extra "mine sub"); (case S_q => first | with_reducible assumption | exact Site.mk (by k_asm) (by k_asm) (by k_asm) (by first | exact rfl | with_reducible assumption)); (case F_q => k_asm); (case hd_q => first | exact room (by with_reducible assumption) rfl | ktr_room); (case hu_q => first | exact unitsL (by with_reducible assumption) rfl | ktr_units); intro h9 tk9 F9 N9; (try k_sweep)))))
  trivial
theorem CrI.of {σ : St} {r : Option Addr} {b : Addr} {k : Nat} (e : climbR k σ b = some r) : CrI σ r b k := by
  cases k with
  | zero => cases e
  | succ k =>
    simp only [climbR, Option.bind_eq_some_iff] at e
    obtain ⟨n, hn, e⟩ := e
    split at e
    · rename_i hl; cases e; exact .top n hn hl rfl
    · rename_i q hl
      simp only [Option.bind_eq_some_iff] at e
      obtain ⟨n2, hn2, e⟩ := e
      split at e
      · rename_i h2; exact .on n n2 q k (Nat.lt_succ_self k) hn hl hn2 h2 e
      · rename_i h2
        split at e
        · rename_i h3; cases e; exact .bare n n2 q hn hl hn2 h3 rfl
        · rename_i x h3
          simp only [Option.bind_eq_some_iff] at e
          obtain ⟨n3, hn3, e⟩ := e
          cases e
          exact .off n n2 n3 q x hn hl hn2 h3 hn3 (fun h5 => h2 (by rw [h3, h5])) rfl
inductive ClI (σ : St) (r : Option Addr) (b : Addr) (k : Nat) : Prop
  | top (n : Node) (hn : σ.nd b = some n) (hl : n.parent = none) (hr : r = none)
  | on (n n2 : Node) (q : Addr) (k0 : Nat) (lt : k0 < k) (hn : σ.nd b = some n) (hl : n.parent = some q) (hn2 : σ.nd q = some n2) (h2 : n2.left = some b) (e : climbL k0 σ q = some r)
  | bare (n n2 : Node) (q : Addr) (hn : σ.nd b = some n) (hl : n.parent = some q) (hn2 : σ.nd q = some n2) (h3 : n2.left = none) (hr : r = some q)
  | off (n n2 n3 : Node) (q x : Addr) (hn : σ.nd b = some n) (hl : n.parent = some q) (hn2 : σ.nd q = some n2) (h3 : n2.left = some x) (hn3 : σ.nd x = some n3) (h4 : x ≠ b) (hr : r = some q)
theorem ClI.of {σ : St} {r : Option Addr} {b : Addr} {k : Nat} (e : climbL k σ b = some r) : ClI σ r b k := by
  cases k with
  | zero => cases e
  | succ k =>
    simp only [climbL, Option.bind_eq_some_iff] at e
    obtain ⟨n, hn, e⟩ := e
    split at e
    · rename_i hl; cases e; exact .top n hn hl rfl
    · rename_i q hl
      simp only [Option.bind_eq_some_iff] at e
      obtain ⟨n2, hn2, e⟩ := e
      split at e
      · rename_i h2; exact .on n n2 q k (Nat.lt_succ_self k) hn hl hn2 h2 e
      · rename_i h2
        split at e
        · rename_i h3; cases e; exact .bare n n2 q hn hl hn2 h3 rfl
        · rename_i x h3
          simp only [Option.bind_eq_some_iff] at e
          obtain ⟨n3, hn3, e⟩ := e
          cases e
          exact .off n n2 n3 q x hn hl hn2 h3 hn3 (fun h5 => h2 (by rw [h3, h5])) rfl
inductive CrJ (σ : St) (r : Option Addr) (news : Led) (k : Nat) (m : Str → Option Value) (nx : Led) : Prop
  | mk (a : Addr) (e : climbR k σ a = some r) (hm : m (Str.ofString "node") = some (.ref a)) (hn : news = nx)
inductive ClJ (σ : St) (r : Option Addr) (news : Led) (k : Nat) (m : Str → Option Value) (nx : Led) : Prop
  | mk (a : Addr) (e : climbL k σ a = some r) (hm : m (Str.ofString "node") = some (.ref a)) (hn : news = nx)
theorem following_ok {k : Nat} {a : Addr} {r : Option Addr} (G : Rep w.params tr dtr S σ) (e : followingF k σ a = some r) (sub : ∀ p ∈ S, p ∈ news) : FnR prog w 2 182 [.ref a] news (fun v => v = optV r) := by
  simp only [followingF, Option.bind_eq_some_iff] at e
  obtain ⟨n, hn, e⟩ := e
  have H := HasNode.mono (G.nodes a n hn) sub
  split at e
  · rename_i b hb
    obtain ⟨x, hx, rfl⟩ := Option.map_eq_some_iff.mp e
    (first | with_reducible refine FnR.intro ?_ | with_reducible refine FnX.intro ?_ | with_reducible refine FnM.intro ?_ | with_reducible refine @Mine.FnS.intro _ _ _ _ _ _ _ _ _ _ ?_)
    intro p loose mean mg mb dp un gd cn cs a9 ccd cl outer A₀ base h₀ L m hp gn dr tk0 os Q E B X T hk F N hd hu hret
    refine enter [(Str.ofString "node", .ref a)] B F X N T rfl rfl hk (by k_is) (by k_is) (by ((conv => lhs; whnf); all_goals exact rfl)) (by ((conv => lhs; whnf); all_goals exact rfl)) (by ktr_room) (BindsTo.of_eq rfl) (locs rfl) ?_ rfl rfl rfl (by decide)
    intro g' L' h' FG' F' N' B' X' T'
    (try dsimp only)
    (try k_fold)
    refine fold_A ?_
    intro en9 ak9 hAu9
    have S9 : Site w ak9 (dp + 1) (un + 3) g' L' := Site.mk B' X' T' rfl
    k_extra "mine steps"
    first | exact hret _ _ _ (by k_asm) (by k_extra "mine drop") rfl | w_report
  · rename_i hb
    (first | with_reducible refine FnR.intro ?_ | with_reducible refine FnX.intro ?_ | with_reducible refine FnM.intro ?_ | with_reducible refine @Mine.FnS.intro _ _ _ _ _ _ _ _ _ _ ?_)
    intro p loose mean mg mb dp un gd cn cs a9 ccd cl outer A₀ base h₀ L m hp gn dr tk0 os Q E B X T hk F N hd hu hret
    refine enter [(Str.ofString "node", .ref a)] B F X N T rfl rfl hk (by k_is) (by k_is) (by ((conv => lhs; whnf); all_goals exact rfl)) (by ((conv => lhs; whnf); all_goals exact rfl)) (by ktr_room) (BindsTo.of_eq rfl) (locs rfl) ?_ rfl rfl rfl (by decide)
    intro g' L' h' FG' F' N' B' X' T'
    (try dsimp only)
    (try k_fold)
    refine fold_A ?_
    intro en9 ak9 hAu9
    have S9 : Site w ak9 (dp + 1) (un + 3) g' L' := Site.mk B' X' T' rfl
    k_extra "mine steps"
    clear H hb hn
    refine whl_J (CrJ σ r news) F' N' k ⟨a, e, rfl, rfl⟩ ?_
    clear e F' N'
    intro P9
    rintro k m₁ nx h tk G9 g9 ⟨b, e, hm, rfl⟩ F' N'
    rcases CrI.of e with ⟨n, hn, hl, hr⟩ | ⟨n, n2, q, k0, lt, hn, hl, hn2, h2, e⟩ | ⟨n, n2, q, hn, hl, hn2, h3, hr⟩ | ⟨n, n2, n3, q, x, hn, hl, hn2, h3, hn3, h4, hr⟩
    · have H := HasNode.mono (G.nodes b n hn) sub
      refine g9 ?_
      k_extra "mine steps"
      first | exact hret _ _ _ (by k_asm) (by k_extra "mine drop") (by rw [hr]; rfl) | w_report
    · have H := HasNode.mono (G.nodes b n hn) sub
      have H2 := HasNode.mono (G.nodes q n2 hn2) sub
      refine g9 ?_
      k_extra "mine steps"
      exact LoopJ.again (by k_asm) (by k_asm) lt ⟨q, e, rfl, rfl⟩
    · have H := HasNode.mono (G.nodes b n hn) sub
      have H2 := HasNode.mono (G.nodes q n2 hn2) sub
      refine g9 ?_
      k_extra "mine steps"
      first | exact hret _ _ _ (by k_asm) (by k_extra "mine drop") (by rw [hr]; rfl) | w_report
    · have H := HasNode.mono (G.nodes b n hn) sub
      have H2 := HasNode.mono (G.nodes q n2 hn2) sub
      have H3 := HasNode.mono (G.nodes x n3 hn3) sub
      refine g9 ?_
      k_extra "mine steps"
      first | exact hret _ _ _ (by k_asm) (by k_extra "mine drop") (by rw [hr]; rfl) | w_report
theorem preceding_ok {k : Nat} {a : Addr} {r : Option Addr} (G : Rep w.params tr dtr S σ) (e : precedingF k σ a = some r) (sub : ∀ p ∈ S, p ∈ news) : FnR prog w 2 189 [.ref a] news (fun v => v = optV r) := by
  simp only [precedingF, Option.bind_eq_some_iff] at e
  obtain ⟨n, hn, e⟩ := e
  have H := HasNode.mono (G.nodes a n hn) sub
  split at e
  · rename_i b hb
    obtain ⟨x, hx, rfl⟩ := Option.map_eq_some_iff.mp e
    (first | with_reducible refine FnR.intro ?_ | with_reducible refine FnX.intro ?_ | with_reducible refine FnM.intro ?_ | with_reducible refine @Mine.FnS.intro _ _ _ _ _ _ _ _ _ _ ?_)
    intro p loose mean mg mb dp un gd cn cs a9 ccd cl outer A₀ base h₀ L m hp gn dr tk0 os Q E B X T hk F N hd hu hret
    refine enter [(Str.ofString "node", .ref a)] B F X N T rfl rfl hk (by k_is) (by k_is) (by ((conv => lhs; whnf); all_goals exact rfl)) (by ((conv => lhs; whnf); all_goals exact rfl)) (by ktr_room) (BindsTo.of_eq rfl) (locs rfl) ?_ rfl rfl rfl (by decide)
    intro g' L' h' FG' F' N' B' X' T'
    (try dsimp only)
    (try k_fold)
    refine fold_A ?_
    intro en9 ak9 hAu9
    have S9 : Site w ak9 (dp + 1) (un + 3) g' L' := Site.mk B' X' T' rfl
    k_extra "mine steps"
    first | exact hret _ _ _ (by k_asm) (by k_extra "mine drop") rfl | w_report
  · rename_i hb
    (first | with_reducible refine FnR.intro ?_ | with_reducible refine FnX.intro ?_ | with_reducible refine FnM.intro ?_ | with_reducible refine @Mine.FnS.intro _ _ _ _ _ _ _ _ _ _ ?_)
    intro p loose mean mg mb dp un gd cn cs a9 ccd cl outer A₀ base h₀ L m hp gn dr tk0 os Q E B X T hk F N hd hu hret
    refine enter [(Str.ofString "node", .ref a)] B F X N T rfl rfl hk (by k_is) (by k_is) (by ((conv => lhs; whnf); all_goals exact rfl)) (by ((conv => lhs; whnf); all_goals exact rfl)) (by ktr_room) (BindsTo.of_eq rfl) (locs rfl) ?_ rfl rfl rfl (by decide)
    intro g' L' h' FG' F' N' B' X' T'
    (try dsimp only)
    (try k_fold)
    refine fold_A ?_
    intro en9 ak9 hAu9
    have S9 : Site w ak9 (dp + 1) (un + 3) g' L' := Site.mk B' X' T' rfl
    k_extra "mine steps"
    clear H hb hn
    refine whl_J (ClJ σ r news) F' N' k ⟨a, e, rfl, rfl⟩ ?_
    clear e F' N'
    intro P9
    rintro k m₁ nx h tk G9 g9 ⟨b, e, hm, rfl⟩ F' N'
    rcases ClI.of e with ⟨n, hn, hl, hr⟩ | ⟨n, n2, q, k0, lt, hn, hl, hn2, h2, e⟩ | ⟨n, n2, q, hn, hl, hn2, h3, hr⟩ | ⟨n, n2, n3, q, x, hn, hl, hn2, h3, hn3, h4, hr⟩
    · have H := HasNode.mono (G.nodes b n hn) sub
      refine g9 ?_
      k_extra "mine steps"
      first | exact hret _ _ _ (by k_asm) (by k_extra "mine drop") (by rw [hr]; rfl) | w_report
    · have H := HasNode.mono (G.nodes b n hn) sub
      have H2 := HasNode.mono (G.nodes q n2 hn2) sub
      refine g9 ?_
      k_extra "mine steps"
      exact LoopJ.again (by k_asm) (by k_asm) lt ⟨q, e, rfl, rfl⟩
    · have H := HasNode.mono (G.nodes b n hn) sub
      have H2 := HasNode.mono (G.nodes q n2 hn2) sub
      refine g9 ?_
      k_extra "mine steps"
      first | exact hret _ _ _ (by k_asm) (by k_extra "mine drop") (by rw [hr]; rfl) | w_report
    · have H := HasNode.mono (G.nodes b n hn) sub
      have H2 := HasNode.mono (G.nodes q n2 hn2) sub
      have H3 := HasNode.mono (G.nodes x n3 hn3) sub
      refine g9 ?_
      k_extra "mine steps"
      first | exact hret _ _ _ (by k_asm) (by k_extra "mine drop") (by rw [hr]; rfl) | w_report

noncomputable def findF : Nat → St → Addr → Int → Int → Option (Addr × Int)
  | 0, _, _, _, _ => none
  | k + 1, σ, a, begin, at_ => (totalOf σ (some a)).bind fun _ => (σ.nd a).bind fun n => (totalOf σ n.left).bind fun ahead => (ownLen σ a).bind fun own =>
    if at_ < begin + ahead then n.left.bind fun b => findF k σ b begin at_
    else if at_ < begin + ahead + own then some (a, begin + ahead)
    else n.right.bind fun b => findF k σ b (begin + ahead + own) at_
inductive FiT (σ : St) (r : Addr) (rb at_ : Int) (b : Addr) (begin ahead own : Int) (n : Node) (k : Nat) : Prop
  | left (c : Addr) (k0 : Nat) (lt : k0 < k) (h1 : at_ < begin + ahead) (hc : n.left = some c) (e : findF k0 σ c begin at_ = some (r, rb))
  | here (h1 : ¬ at_ < begin + ahead) (h2 : at_ < begin + ahead + own) (hr : r = b) (hb : rb = begin + ahead)
  | right (c : Addr) (k0 : Nat) (lt : k0 < k) (h1 : ¬ at_ < begin + ahead) (h2 : ¬ at_ < begin + ahead + own) (hc : n.right = some c) (e : findF k0 σ c (begin + ahead + own) at_ = some (r, rb))
inductive FiI (σ : St) (r : Addr) (rb at_ : Int) (b : Addr) (begin : Int) (k : Nat) : Prop
  | mk (n : Node) (ahead own : Int) (hn : σ.nd b = some n) (hl : totalOf σ n.left = some ahead) (ho : ownLen σ b = some own) (t : FiT σ r rb at_ b begin ahead own n k)
theorem lnj4 : True := by
  (k_with "call ref#" => ((fail_if_success k_extra "off j1"); (k_here; (with_reducible show wpAny _ _ (call (Value.ref 70) _ _) _ _ _); k_dflt ((first | ((with_reducible show wpAny _ _ (call (Value.ref 70) [Value.ref _] _) _ _ _); refine' FnR.useI (total_of_ok (v := some _) ?g_q ?e_q ?sub_q ) ?S_q ?F_q ?N_q ?hd_q ?hu_q ?_) | ((with_reducible show wpAny _ _ (call (Value.ref 70) [Value.none] _) _ _ _); refine' FnR.useI (total_of_ok (v := none) ?g_q ?e_q ?sub_q ) ?S_q ?F_q ?N_q ?hd_q ?hu_q ?_) | (refine' FnR.useI (total_of_ok  ?g_q ?e_q ?sub_q ) ?S_q ?F_q ?N_q ?hd_q ?hu_q ?_)); (case g_q => k_extra "mine rep"); (case N_q => k_asm); (case e_q => with_reducible assumption); (case sub_q => k_extra "mine sub"); (case S_q => first | with_reducible assumption | exact Site.mk (by k_asm) (by k_asm) (by k_asm) (by first | exact rfl | with_reducible assumption)); (case F_q => k_asm); (case hd_q => first | exact room (by with_reducible assumption) rfl | ktr_room); (case hu_q => first | exact unitsL (by with_reducible assumption) rfl | ktr_units); intro h9 tk9 F9 N9 t9; (try k_sweep)))))
  (k_with "call ref#" => ((fail_if_success k_extra "off j1"); (k_here; (with_reducible show wpAny _ _ (call (Value.ref 77) _ _) _ _ _); k_dflt ((first | (refine' FnR.useI (own_length_ok  ?g_q ?e_q ?sub_q ) ?S_q ?F_q ?N_q ?hd_q ?hu_q ?_)); (case g_q => k_extra "mine rep"); (case N_q => k_asm); (case e_q => with_reducible assumption); (case sub_q => k_extra "mine sub"); (case S_q => first | with_reducible assumption | exact Site.mk (by k_asm) (by k_asm) (by k_asm) (by first | exact rfl | with_reducible assumption)); (case F_q => k_asm); (case hd_q => first | exact room (by with_reducible assumption) rfl | ktr_room); (case hu_q => first | exact unitsL (by with_reducible assumption) rfl | ktr_units); intro h9 tk9 F9 N9 t9; (try k_sweep)))))
  trivial
theorem FiI.of {σ : St} {r b : Addr} {rb at_ begin : Int} {k : Nat} (e : findF k σ b begin at_ = some (r, rb)) : FiI σ r rb at_ b begin k := by
  cases k with
  | zero => cases e
  | succ k =>
    simp only [findF, Option.bind_eq_some_iff] at e
    obtain ⟨_, _, n, hn, ahead, hl, own, ho, e⟩ := e
    refine ⟨n, ahead, own, hn, hl, ho, ?_⟩
    split at e
    · rename_i hlt
      simp only [Option.bind_eq_some_iff] at e
      obtain ⟨c, hc, e⟩ := e
      exact .left c k (Nat.lt_succ_self k) hlt hc e
    · rename_i hlt
      split at e
      · rename_i hlt2; cases e; exact .here hlt hlt2 rfl rfl
      · rename_i hlt2
        simp only [Option.bind_eq_some_iff] at e
        obtain ⟨c, hc, e⟩ := e
        exact .right c k (Nat.lt_succ_self k) hlt hlt2 hc e
inductive FiJ (σ : St) (r : Addr) (rb at_ : Int) (ta : Tok) (news : Led) (k : Nat) (m : Str → Option Value) (nx : Led) : Prop
  | mk (a : Addr) (begin : Int) (t1 : Tok) (e : findF k σ a begin at_ = some (r, rb)) (hm : m (Str.ofString "node") = some (.ref a)) (hm1 : m (Str.ofString "begin") = some (.int begin t1)) (hm2 : m (Str.ofString "at") = some (.int at_ ta)) (hn : news = nx)
section
theorem lnj5 : True := by
  (k_with "ite#" => ((fail_if_success k_extra "off j2"); (first | refine ite_pos (by with_reducible assumption) ?_ | refine ite_neg (by with_reducible assumption) ?_ | refine ite_neg (ne_tr (by with_reducible assumption)) ?_ | refine ite_pos (by decide) ?_ | refine ite_neg (by decide) ?_ | refine ite_stop ?_)))
  trivial
theorem find_interval_ok {k : Nat} {a r : Addr} {at_ rb : Int} {ta : Tok} (G : Rep w.params tr dtr S σ) (hr : σ.root = some a) (e : findF k σ a 0 at_ = some (r, rb)) (sub : ∀ p ∈ S, p ∈ news) : FnX prog w 3 161 [.ref tr, .int at_ ta] news (fun v news' => ∃ q t, v = .ref q ∧ news' = (q, tupObj [.ref r, .int rb t]) :: news ∧ AllLt q news) := by
  have H := HasRoot.mono G.tree sub
  (first | with_reducible refine FnR.intro ?_ | with_reducible refine FnX.intro ?_ | with_reducible refine FnM.intro ?_ | with_reducible refine @Mine.FnS.intro _ _ _ _ _ _ _ _ _ _ ?_)
  intro p loose mean mg mb dp un gd cn cs a9 ccd cl outer A₀ base h₀ L m hp gn dr tk0 os Q E B X T hk F N hd hu hret
  refine enter [(Str.ofString "tree", .ref tr), (Str.ofString "at", .int at_ ta)] B F X N T rfl rfl hk (by k_is) (by k_is) (by ((conv => lhs; whnf); all_goals exact rfl)) (by ((conv => lhs; whnf); all_goals exact rfl)) (by ktr_room) (BindsTo.of_eq rfl) (locs rfl) ?_ rfl rfl rfl (by decide)
  intro g' L' h' FG' F' N' B' X' T'
  (try dsimp only)
  (try k_fold)
  refine fold_A ?_
  intro en9 ak9 hAu9
  have S9 : Site w ak9 (dp + 1) (un + 3) g' L' := Site.mk B' X' T' rfl
  k_extra "mine steps"
  refine whl_J (FiJ σ r rb at_ ta news) (by k_asm) (by k_asm) k ⟨a, _, _, e, rfl, rfl, rfl, rfl⟩ ?_
  clear e
  intro P9
  rintro k m₁ nx h tk G9 g9 ⟨b, begin, t1, e, hm, hm1, hm2, rfl⟩ F' N'
  obtain ⟨n, ahead, own, hn, hl, ho, e⟩ := FiI.of e
  have H := HasNode.mono (G.nodes b n hn) sub
  refine g9 ?_
  k_extra "mine steps"
  by_cases hlt : at_ < begin + ahead
  · rcases e with ⟨c, k0, lt, _, hc, e⟩ | ⟨h1, _, _, _⟩ | ⟨_, _, _, h1, _, _, _⟩
    · refine stop_lt hlt ?_
      k_extra "mine steps"
      exact LoopJ.again (by k_asm) (by k_asm) lt ⟨c, _, _, e, by k_extra "mine look", by k_extra "mine look", by k_extra "mine look", rfl⟩
    · exact absurd hlt h1
    · exact absurd hlt h1
  · refine stop_nlt hlt ?_
    k_extra "mine steps"
    rcases e with ⟨_, _, _, h1, _, _⟩ | ⟨_, h2, hr, hb⟩ | ⟨c, k0, lt, _, h2, hc, e⟩
    · exact absurd h1 hlt
    · refine stop_lt h2 ?_
      k_extra "mine steps"
      exact hret _ _ _ _ (by k_asm) (by k_asm) ⟨_, _, rfl, by rw [hr, hb], allLt_of (by with_reducible assumption)⟩
    · refine stop_nlt h2 ?_
      k_extra "mine steps"
      exact LoopJ.again (by k_asm) (by k_asm) lt ⟨c, _, _, e, by k_extra "mine look", by k_extra "mine look", by k_extra "mine look", rfl⟩
end
end
end TM1

section TM2
open PySem PySem.W PyProof.Rows PySem.Calls PySem.Spec
set_option maxRecDepth 100000
set_option maxHeartbeats 2000000

noncomputable def setLeft (σ : St) (a : Addr) (son : Option Addr) : Option St := (σ.nd a).bind fun n => match son with
  | none => some (σ.set a { n with left := none })
  | some b => ((σ.set a { n with left := some b }).nd b).bind fun m => some ((σ.set a { n with left := some b }).set b { m with parent := some a })
noncomputable def setRight (σ : St) (a : Addr) (son : Option Addr) : Option St := (σ.nd a).bind fun n => match son with
  | none => some (σ.set a { n with right := none })
  | some b => ((σ.set a { n with right := some b }).nd b).bind fun m => some ((σ.set a { n with right := some b }).set b { m with parent := some a })
/-- the other's parent is told first -/
noncomputable def adopt (σ : St) (par other : Option Addr) : Option St := match other with
  | none => some σ
  | some b => (σ.nd b).bind fun m => some (σ.set b { m with parent := par })
noncomputable def putInStead (σ : St) (a : Addr) (other : Option Addr) : Option St := (σ.nd a).bind fun n => (adopt σ n.parent other).bind fun σ1 => match n.parent with
  | none => some (σ1.withRoot other)
  | some q => (σ1.nd q).bind fun qn => (σ1.nd a).bind fun _ => match qn.left with
    | none => some (σ1.set q { qn with right := other })
    | some x => (σ1.nd x).bind fun _ => if x = a then some (σ1.set q { qn with left := other }) else some (σ1.set q { qn with right := other })
section
variable {prog : Program} {w : World} {R S : Led} {tr dtr : Addr} {σ σ' : St}
theorem lnj6 : True := by
  (k_with "off j2" => skip)
  (k_with "off j1" => skip)
  trivial
theorem set_left_ok {a : Addr} {son : Option Addr} (e : setLeft σ a son = some σ') (j : Dj R S) (G : Rep w.params tr dtr S σ) : FnM prog w 1 98 [.ref a, optV son] R S tr dtr σ' (fun r => r = .none) := by
  simp only [setLeft, Option.bind_eq_some_iff] at e
  obtain ⟨n, hn, e⟩ := e
  cases son with
  | none =>
    cases e
    (first | with_reducible refine FnR.intro ?_ | with_reducible refine FnX.intro ?_ | with_reducible refine FnM.intro ?_ | with_reducible refine @Mine.FnS.intro _ _ _ _ _ _ _ _ _ _ ?_)
    intro p loose mean mg mb dp un gd cn cs a9 ccd cl outer A₀ base h₀ L m hp gn dr tk0 os Q E B X T hk F N hd hu hret
    dsimp only [optV]
    refine enter [(Str.ofString "node", .ref a), (Str.ofString "son", .none)] B F X N T rfl rfl hk (by k_is) (by k_is) (by ((conv => lhs; whnf); all_goals exact rfl)) (by ((conv => lhs; whnf); all_goals exact rfl)) (by ktr_room) (BindsTo.of_eq rfl) (locs rfl) ?_ rfl rfl rfl (by decide)
    intro g' L' h' FG' F' N' B' X' T'
    (try dsimp only)
    (try k_fold)
    refine fold_A ?_
    intro en9 ak9 hAu9
    have S9 : Site w ak9 (dp + 1) (un + 3) g' L' := Site.mk B' X' T' rfl
    k_extra "mine steps"
    first | exact hret _ _ _ _ (by k_asm) (by k_extra "mine drop") (by k_extra "mine addr") (by with_reducible assumption) (by with_reducible assumption) rfl | w_report
  | some b =>
    simp only [Option.bind_eq_some_iff] at e
    obtain ⟨n2, hn2, e⟩ := e
    cases e
    (first | with_reducible refine FnR.intro ?_ | with_reducible refine FnX.intro ?_ | with_reducible refine FnM.intro ?_ | with_reducible refine @Mine.FnS.intro _ _ _ _ _ _ _ _ _ _ ?_)
    intro p loose mean mg mb dp un gd cn cs a9 ccd cl outer A₀ base h₀ L m hp gn dr tk0 os Q E B X T hk F N hd hu hret
    dsimp only [optV]
    refine enter [(Str.ofString "node", .ref a), (Str.ofString "son", .ref b)] B F X N T rfl rfl hk (by k_is) (by k_is) (by ((conv => lhs; whnf); all_goals exact rfl)) (by ((conv => lhs; whnf); all_goals exact rfl)) (by ktr_room) (BindsTo.of_eq rfl) (locs rfl) ?_ rfl rfl rfl (by decide)
    intro g' L' h' FG' F' N' B' X' T'
    (try dsimp only)
    (try k_fold)
    refine fold_A ?_
    intro en9 ak9 hAu9
    have S9 : Site w ak9 (dp + 1) (un + 3) g' L' := Site.mk B' X' T' rfl
    k_extra "mine steps"
    first | exact hret _ _ _ _ (by k_asm) (by k_extra "mine drop") (by k_extra "mine addr") (by with_reducible assumption) (by with_reducible assumption) rfl | w_report
theorem set_right_ok {a : Addr} {son : Option Addr} (e : setRight σ a son = some σ') (j : Dj R S) (G : Rep w.params tr dtr S σ) : FnM prog w 1 105 [.ref a, optV son] R S tr dtr σ' (fun r => r = .none) := by
  simp only [setRight, Option.bind_eq_some_iff] at e
  obtain ⟨n, hn, e⟩ := e
  cases son with
  | none =>
    cases e
    (first | with_reducible refine FnR.intro ?_ | with_reducible refine FnX.intro ?_ | with_reducible refine FnM.intro ?_ | with_reducible refine @Mine.FnS.intro _ _ _ _ _ _ _ _ _ _ ?_)
    intro p loose mean mg mb dp un gd cn cs a9 ccd cl outer A₀ base h₀ L m hp gn dr tk0 os Q E B X T hk F N hd hu hret
    dsimp only [optV]
    refine enter [(Str.ofString "node", .ref a), (Str.ofString "son", .none)] B F X N T rfl rfl hk (by k_is) (by k_is) (by ((conv => lhs; whnf); all_goals exact rfl)) (by ((conv => lhs; whnf); all_goals exact rfl)) (by ktr_room) (BindsTo.of_eq rfl) (locs rfl) ?_ rfl rfl rfl (by decide)
    intro g' L' h' FG' F' N' B' X' T'
    (try dsimp only)
    (try k_fold)
    refine fold_A ?_
    intro en9 ak9 hAu9
    have S9 : Site w ak9 (dp + 1) (un + 3) g' L' := Site.mk B' X' T' rfl
    k_extra "mine steps"
    first | exact hret _ _ _ _ (by k_asm) (by k_extra "mine drop") (by k_extra "mine addr") (by with_reducible assumption) (by with_reducible assumption) rfl | w_report
  | some b =>
    simp only [Option.bind_eq_some_iff] at e
    obtain ⟨n2, hn2, e⟩ := e
    cases e
    (first | with_reducible refine FnR.intro ?_ | with_reducible refine FnX.intro ?_ | with_reducible refine FnM.intro ?_ | with_reducible refine @Mine.FnS.intro _ _ _ _ _ _ _ _ _ _ ?_)
    intro p loose mean mg mb dp un gd cn cs a9 ccd cl outer A₀ base h₀ L m hp gn dr tk0 os Q E B X T hk F N hd hu hret
    dsimp only [optV]
    refine enter [(Str.ofString "node", .ref a), (Str.ofString "son", .ref b)] B F X N T rfl rfl hk (by k_is) (by k_is) (by ((conv => lhs; whnf); all_goals exact rfl)) (by ((conv => lhs; whnf); all_goals exact rfl)) (by ktr_room) (BindsTo.of_eq rfl) (locs rfl) ?_ rfl rfl rfl (by decide)
    intro g' L' h' FG' F' N' B' X' T'
    (try dsimp only)
    (try k_fold)
    refine fold_A ?_
    intro en9 ak9 hAu9
    have S9 : Site w ak9 (dp + 1) (un + 3) g' L' := Site.mk B' X' T' rfl
    k_extra "mine steps"
    first | exact hret _ _ _ _ (by k_asm) (by k_extra "mine drop") (by k_extra "mine addr") (by with_reducible assumption) (by with_reducible assumption) rfl | w_report
inductive PiJ (P : Params) (R S : Led) (tr dtr : Addr) (σ1 : St) (m₀ m : Str → Option Value) (nx : Led) : Prop
  | mk (S₁ : Led) (hm : m = m₀) (hx : nx = R ++ S₁) (a1 : S₁.map (·.1) = S.map (·.1)) (j : Dj R S₁) (G : Rep P tr dtr S₁ σ1)
inductive PiI (σ1 σ' : St) (a : Addr) (par son : Option Addr) : Prop
  | top (hp : par = none) (e : σ' = σ1.withRoot son)
  | left (q : Addr) (qn : Node) (na : Node) (hp : par = some q) (hq : σ1.nd q = some qn) (ha : σ1.nd a = some na) (hx : qn.left = some a) (e : σ' = σ1.set q { qn with left := son })
  | right (q : Addr) (qn : Node) (na : Node) (hp : par = some q) (hq : σ1.nd q = some qn) (ha : σ1.nd a = some na) (hn : ¬ qn.left = some a) (hx : ∀ x, qn.left = some x → ∃ xn, σ1.nd x = some xn) (e : σ' = σ1.set q { qn with right := son })
theorem put_inv {σ σ' : St} {a : Addr} {son : Option Addr} (e : putInStead σ a son = some σ') : ∃ n σ1, σ.nd a = some n ∧ adopt σ n.parent son = some σ1 ∧ PiI σ1 σ' a n.parent son := by
  simp only [putInStead, Option.bind_eq_some_iff] at e
  obtain ⟨n, hn, σ1, h1, e⟩ := e
  refine ⟨n, σ1, hn, h1, ?_⟩
  split at e
  · rename_i hp
    cases e
    rw [hp]
    exact .top rfl rfl
  · rename_i q hp
    simp only [Option.bind_eq_some_iff] at e
    obtain ⟨qn, hq, na, ha, e⟩ := e
    split at e
    · rename_i hx
      cases e
      rw [hp]
      exact .right q qn na rfl hq ha (by rw [hx]; intro h; cases h) (fun x h => by rw [hx] at h; cases h) rfl
    · rename_i x hx
      simp only [Option.bind_eq_some_iff] at e
      obtain ⟨xn, hxn, e⟩ := e
      split at e
      · rename_i hxa
        cases e
        rw [hp]
        exact .left q qn na rfl hq ha (by rw [hx, hxa]) rfl
      · rename_i hxa
        cases e
        rw [hp]
        exact .right q qn na rfl hq ha (by rw [hx]; intro h; exact hxa (Option.some.inj h)) (fun y h => by rw [hx] at h; cases h; exact ⟨xn, hxn⟩) rfl
section
theorem lnj7 : True := by
  (k_with "ite#" => ((fail_if_success k_extra "off j3"); (first | refine ite_pos (by with_reducible assumption) ?_ | refine ite_neg (by with_reducible assumption) ?_ | refine ite_neg (ne_tr (by with_reducible assumption)) ?_ | refine ite_pos (by decide) ?_ | refine ite_neg (by decide) ?_ | refine ite_stop ?_)))
  (k_with "compareOp Is none#" => ((fail_if_success k_extra "off j3"); (k_here; refine is_none_optV ?_)))
  (k_with "compareOp IsNot none#" => ((fail_if_success k_extra "off j3"); (k_here; refine isnot_none_optV ?_)))
  trivial
theorem put_in_stead_ok {a : Addr} {son : Option Addr} (e : putInStead σ a son = some σ') (j : Dj R S) (G : Rep w.params tr dtr S σ) : FnM prog w 1 91 [.ref tr, .ref a, optV son] R S tr dtr σ' (fun r => r = .none) := by
  obtain ⟨n, σ1, hn, h1, e⟩ := put_inv e
  (first | with_reducible refine FnR.intro ?_ | with_reducible refine FnX.intro ?_ | with_reducible refine FnM.intro ?_ | with_reducible refine @Mine.FnS.intro _ _ _ _ _ _ _ _ _ _ ?_)
  intro p loose mean mg mb dp un gd cn cs a9 ccd cl outer A₀ base h₀ L m hp gn dr tk0 os Q E B X T hk F N hd hu hret
  refine enter [(Str.ofString "tree", .ref tr), (Str.ofString "node", .ref a), (Str.ofString "other", optV son)] B F X N T rfl rfl hk (by k_is) (by k_is) (by ((conv => lhs; whnf); all_goals exact rfl)) (by ((conv => lhs; whnf); all_goals exact rfl)) (by ktr_room) (BindsTo.of_eq rfl) (locs rfl) ?_ rfl rfl rfl (by decide)
  intro g' L' h' FG' F' N' B' X' T'
  (try dsimp only)
  (try k_fold)
  refine fold_A ?_
  intro en9 ak9 hAu9
  have S9 : Site w ak9 (dp + 1) (un + 3) g' L' := Site.mk B' X' T' rfl
  k_extra "mine steps"
  refine ite_join (by k_asm) (PiJ w.params R S tr dtr σ1) ?_ ?_
  · clear e
    intro P9
    cases son with
    | none =>
      cases h1
      refine stop_not rfl ?_
      k_extra "mine steps"
      exact JoinP.intro (by k_asm) (by k_asm) ⟨S, rfl, rfl, rfl, j, G⟩
    | some b =>
      simp only [adopt, Option.bind_eq_some_iff] at h1
      obtain ⟨bn, hb, h1⟩ := h1
      cases h1
      refine stop_is rfl ?_
      dsimp only [optV_some] at *
      k_extra "mine steps"
      exact JoinP.intro (by k_asm) (by k_asm) ⟨_, rfl, rfl, by k_extra "mine addr", by with_reducible assumption, by with_reducible assumption⟩
  · rintro h tk m₁ nx G9 g9 ⟨S₁, rfl, rfl, a1, j, G⟩ F' N'
    clear h1 hn
    refine g9 ?_
    clear N
    k_sweep
    k_extra "mine steps"
    rcases e with ⟨hp, e⟩ | ⟨q, qn, na, hp, hq, ha, hx, e⟩ | ⟨q, qn, na, hp, hq, ha, hn, hx, e⟩ <;> subst e
    · refine stop_is (by rw [hp]; rfl) ?_
      k_extra "mine steps"
      first | exact hret _ _ _ _ (by k_asm) (by k_extra "mine drop") (by k_extra "mine addr") (by with_reducible assumption) (by with_reducible assumption) rfl | w_report
    · refine stop_not (by rw [hp]; rfl) ?_
      simp only [hp, optV_some] at F'
      k_extra "mine steps"
      first | exact hret _ _ _ _ (by k_asm) (by k_extra "mine drop") (by k_extra "mine addr") (by with_reducible assumption) (by with_reducible assumption) rfl | w_report
    · refine stop_not (by rw [hp]; rfl) ?_
      simp only [hp, optV_some] at F'
      k_extra "mine steps"
      refine is_optV_node (by k_asm) (HasNode.mono (G.nodes a na ha) (fun p hp => List.mem_append_right _ hp)) (fun x h => (hx x h).elim fun xn hxn => ⟨xn, HasNode.mono (G.nodes x xn hxn) (fun p hp => List.mem_append_right _ hp)⟩) ?_
      k_extra "mine steps"
      refine stop_nlt hn ?_
      k_extra "mine steps"
      first | exact hret _ _ _ _ (by k_asm) (by k_extra "mine drop") (by k_extra "mine addr") (by with_reducible assumption) (by with_reducible assumption) rfl | w_report
end
end
end TM2

section TM3
open PySem PySem.W PyProof.Rows PySem.Calls PySem.Spec
set_option maxRecDepth 100000
set_option maxHeartbeats 2000000

noncomputable def rotR (σ : St) (a : Addr) : Option (St × Addr) :=
  (σ.nd a).bind fun n => n.left.bind fun son => (putInStead σ a (some son)).bind fun σ1 =>
  (σ1.nd a).bind fun n1 => (σ1.nd son).bind fun s1 => (totalOf σ1 s1.right).bind fun k =>
  ((σ1.set a { n1 with total := n1.total - s1.total + k }).nd son).bind fun s2 => (setLeft (σ1.set a { n1 with total := n1.total - s1.total + k }) a s2.right).bind fun σ3 =>
  (setRight σ3 son (some a)).bind fun σ4 => (σ4.nd son).bind fun s4 => some (σ4.set son { s4 with total := n1.total }, son)
noncomputable def rotL (σ : St) (a : Addr) : Option (St × Addr) :=
  (σ.nd a).bind fun n => n.right.bind fun son => (putInStead σ a (some son)).bind fun σ1 =>
  (σ1.nd a).bind fun n1 => (σ1.nd son).bind fun s1 => (totalOf σ1 s1.left).bind fun k =>
  ((σ1.set a { n1 with total := n1.total - s1.total + k }).nd son).bind fun s2 => (setRight (σ1.set a { n1 with total := n1.total - s1.total + k }) a s2.left).bind fun σ3 =>
  (setLeft σ3 son (some a)).bind fun σ4 => (σ4.nd son).bind fun s4 => some (σ4.set son { s4 with total := n1.total }, son)
noncomputable def addAbove : Nat → St → Option Addr → Int → Option St
  | 0, _, _, _ => none
  | _ + 1, σ, none, _ => some σ
  | k + 1, σ, some a, many => (σ.nd a).bind fun n => addAbove k (σ.set a { n with total := n.total + many }) n.parent many
theorem lnj8 : True := by
  (k_with "off j3" => skip)
  trivial
theorem St.set_self {σ : St} {a : Addr} {n : Node} : (σ.set a n).nd a = some n := by simp [St.set]
section
variable {prog : Program} {w : World} {R S : Led} {tr dtr : Addr} {σ σ' : St}
theorem lnj9 : True := by
  (k_with "call ref#" => ((fail_if_success k_extra "off j4"); (k_here; (with_reducible show wpAny _ _ (call (Value.ref 70) _ _) _ _ _); k_dflt ((first | ((with_reducible show wpAny _ _ (call (Value.ref 70) [Value.ref _] _) _ _ _); refine' FnR.useI (total_of_ok (v := some _) ?g_q ?e_q ?sub_q ) ?S_q ?F_q ?N_q ?hd_q ?hu_q ?_) | ((with_reducible show wpAny _ _ (call (Value.ref 70) [Value.none] _) _ _ _); refine' FnR.useI (total_of_ok (v := none) ?g_q ?e_q ?sub_q ) ?S_q ?F_q ?N_q ?hd_q ?hu_q ?_) | (refine' FnR.useI (total_of_ok  ?g_q ?e_q ?sub_q ) ?S_q ?F_q ?N_q ?hd_q ?hu_q ?_)); (case g_q => k_extra "mine rep"); (case N_q => k_asm); (case e_q => with_reducible assumption); (case sub_q => k_extra "mine sub"); (case S_q => first | with_reducible assumption | exact Site.mk (by k_asm) (by k_asm) (by k_asm) (by first | exact rfl | with_reducible assumption)); (case F_q => k_asm); (case hd_q => first | exact room (by with_reducible assumption) rfl | ktr_room); (case hu_q => first | exact unitsL (by with_reducible assumption) rfl | ktr_units); intro h9 tk9 F9 N9 t9; (try k_sweep)))))
  (k_with "call ref#" => ((fail_if_success k_extra "off j4"); (k_here; (with_reducible show wpAny _ _ (call (Value.ref 91) _ _) _ _ _); k_dflt ((first | ((with_reducible show wpAny _ _ (call (Value.ref 91) [_, _, Value.ref _] _) _ _ _); refine' FnM.useV (put_in_stead_ok (son := some _) ?e_q ?j_q ?G_q) ?S_q ?F_q ?N_q ?hd_q ?hu_q ?_) | ((with_reducible show wpAny _ _ (call (Value.ref 91) [_, _, Value.none] _) _ _ _); refine' FnM.useV (put_in_stead_ok (son := none) ?e_q ?j_q ?G_q) ?S_q ?F_q ?N_q ?hd_q ?hu_q ?_) | (refine' FnM.useV (put_in_stead_ok  ?e_q ?j_q ?G_q) ?S_q ?F_q ?N_q ?hd_q ?hu_q ?_)); (case G_q => k_extra "mine rep"); (case N_q => refine' News.cut ?kN_q ?kC_q; (case kN_q => k_asm); (case kC_q => k_extra "mine cut")); (case j_q => k_extra "mine dj"); (case e_q => with_reducible assumption); (case S_q => first | with_reducible assumption | exact Site.mk (by k_asm) (by k_asm) (by k_asm) (by first | exact rfl | with_reducible assumption)); (case F_q => k_asm); (case hd_q => first | exact room (by with_reducible assumption) rfl | ktr_room); (case hu_q => first | exact unitsL (by with_reducible assumption) rfl | ktr_units); intro S9 h9 tk9 F9 N9 a9 j9 G9; (try simp only [List.cons_append] at N9); (try k_sweep); k_extra "mine sweep"))))
  (k_with "call ref#" => ((fail_if_success k_extra "off j4"); (k_here; (with_reducible show wpAny _ _ (call (Value.ref 98) _ _) _ _ _); k_dflt ((first | ((with_reducible show wpAny _ _ (call (Value.ref 98) [_, Value.ref _] _) _ _ _); refine' FnM.useV (set_left_ok (son := some _) ?e_q ?j_q ?G_q) ?S_q ?F_q ?N_q ?hd_q ?hu_q ?_) | ((with_reducible show wpAny _ _ (call (Value.ref 98) [_, Value.none] _) _ _ _); refine' FnM.useV (set_left_ok (son := none) ?e_q ?j_q ?G_q) ?S_q ?F_q ?N_q ?hd_q ?hu_q ?_) | (refine' FnM.useV (set_left_ok  ?e_q ?j_q ?G_q) ?S_q ?F_q ?N_q ?hd_q ?hu_q ?_)); (case G_q => k_extra "mine rep"); (case N_q => refine' News.cut ?kN_q ?kC_q; (case kN_q => k_asm); (case kC_q => k_extra "mine cut")); (case j_q => k_extra "mine dj"); (case e_q => with_reducible assumption); (case S_q => first | with_reducible assumption | exact Site.mk (by k_asm) (by k_asm) (by k_asm) (by first | exact rfl | with_reducible assumption)); (case F_q => k_asm); (case hd_q => first | exact room (by with_reducible assumption) rfl | ktr_room); (case hu_q => first | exact unitsL (by with_reducible assumption) rfl | ktr_units); intro S9 h9 tk9 F9 N9 a9 j9 G9; (try simp only [List.cons_append] at N9); (try k_sweep); k_extra "mine sweep"))))
  (k_with "call ref#" => ((fail_if_success k_extra "off j4"); (k_here; (with_reducible show wpAny _ _ (call (Value.ref 105) _ _) _ _ _); k_dflt ((first | ((with_reducible show wpAny _ _ (call (Value.ref 105) [_, Value.ref _] _) _ _ _); refine' FnM.useV (set_right_ok (son := some _) ?e_q ?j_q ?G_q) ?S_q ?F_q ?N_q ?hd_q ?hu_q ?_) | ((with_reducible show wpAny _ _ (call (Value.ref 105) [_, Value.none] _) _ _ _); refine' FnM.useV (set_right_ok (son := none) ?e_q ?j_q ?G_q) ?S_q ?F_q ?N_q ?hd_q ?hu_q ?_) | (refine' FnM.useV (set_right_ok  ?e_q ?j_q ?G_q) ?S_q ?F_q ?N_q ?hd_q ?hu_q ?_)); (case G_q => k_extra "mine rep"); (case N_q => refine' News.cut ?kN_q ?kC_q; (case kN_q => k_asm); (case kC_q => k_extra "mine cut")); (case j_q => k_extra "mine dj"); (case e_q => with_reducible assumption); (case S_q => first | with_reducible assumption | exact Site.mk (by k_asm) (by k_asm) (by k_asm) (by first | exact rfl | with_reducible assumption)); (case F_q => k_asm); (case hd_q => first | exact room (by with_reducible assumption) rfl | ktr_room); (case hu_q => first | exact unitsL (by with_reducible assumption) rfl | ktr_units); intro S9 h9 tk9 F9 N9 a9 j9 G9; (try simp only [List.cons_append] at N9); (try k_sweep); k_extra "mine sweep"))))
  trivial
theorem rotate_right_ok {a son : Addr} (e : rotR σ a = some (σ', son)) (j : Dj R S) (G : Rep w.params tr dtr S σ) : FnM prog w 2 112 [.ref tr, .ref a] R S tr dtr σ' (fun r => r = .ref son) := by
  simp only [rotR, Option.bind_eq_some_iff] at e
  obtain ⟨n, hn, son, hson, σ1, h1, n1, hn1, s1, hs1, k, hk, s2, hs2, σ3, h3, σ4, h4, s4, hs4, e⟩ := e
  cases e
  (first | with_reducible refine FnR.intro ?_ | with_reducible refine FnX.intro ?_ | with_reducible refine FnM.intro ?_ | with_reducible refine @Mine.FnS.intro _ _ _ _ _ _ _ _ _ _ ?_)
  intro p loose mean mg mb dp un gd cn cs a9 ccd cl outer A₀ base h₀ L m hp gn dr tk0 os Q E B X T hk F N hd hu hret
  refine enter [(Str.ofString "tree", .ref tr), (Str.ofString "node", .ref a)] B F X N T rfl rfl hk (by k_is) (by k_is) (by ((conv => lhs; whnf); all_goals exact rfl)) (by ((conv => lhs; whnf); all_goals exact rfl)) (by ktr_room) (BindsTo.of_eq rfl) (locs rfl) ?_ rfl rfl rfl (by decide)
  intro g' L' h' FG' F' N' B' X' T'
  (try dsimp only)
  (try k_fold)
  refine fold_A ?_
  intro en9 ak9 hAu9
  have S9 : Site w ak9 (dp + 1) (un + 3) g' L' := Site.mk B' X' T' rfl
  k_extra "mine steps"
  first | exact hret _ _ _ _ (by k_asm) (by k_extra "mine drop") (by k_extra "mine addr") (by with_reducible assumption) (by with_reducible assumption) rfl | w_report
theorem rotate_left_ok {a son : Addr} (e : rotL σ a = some (σ', son)) (j : Dj R S) (G : Rep w.params tr dtr S σ) : FnM prog w 2 119 [.ref tr, .ref a] R S tr dtr σ' (fun r => r = .ref son) := by
  simp only [rotL, Option.bind_eq_some_iff] at e
  obtain ⟨n, hn, son, hson, σ1, h1, n1, hn1, s1, hs1, k, hk, s2, hs2, σ3, h3, σ4, h4, s4, hs4, e⟩ := e
  cases e
  (first | with_reducible refine FnR.intro ?_ | with_reducible refine FnX.intro ?_ | with_reducible refine FnM.intro ?_ | with_reducible refine @Mine.FnS.intro _ _ _ _ _ _ _ _ _ _ ?_)
  intro p loose mean mg mb dp un gd cn cs a9 ccd cl outer A₀ base h₀ L m hp gn dr tk0 os Q E B X T hk F N hd hu hret
  refine enter [(Str.ofString "tree", .ref tr), (Str.ofString "node", .ref a)] B F X N T rfl rfl hk (by k_is) (by k_is) (by ((conv => lhs; whnf); all_goals exact rfl)) (by ((conv => lhs; whnf); all_goals exact rfl)) (by ktr_room) (BindsTo.of_eq rfl) (locs rfl) ?_ rfl rfl rfl (by decide)
  intro g' L' h' FG' F' N' B' X' T'
  (try dsimp only)
  (try k_fold)
  refine fold_A ?_
  intro en9 ak9 hAu9
  have S9 : Site w ak9 (dp + 1) (un + 3) g' L' := Site.mk B' X' T' rfl
  k_extra "mine steps"
  first | exact hret _ _ _ _ (by k_asm) (by k_extra "mine drop") (by k_extra "mine addr") (by with_reducible assumption) (by with_reducible assumption) rfl | w_report
inductive AaJ (P : Params) (R S : Led) (tr dtr : Addr) (σ' : St) (many : Int) (t : Tok) (k : Nat) (m : Str → Option Value) (nx : Led) : Prop
  | mk (v : Option Addr) (σ : St) (S₁ : Led) (e : addAbove k σ v many = some σ') (hx : nx = R ++ S₁) (a1 : S₁.map (·.1) = S.map (·.1)) (j : Dj R S₁) (G : Rep P tr dtr S₁ σ) (hm : m (Str.ofString "node") = some (optV v)) (hm1 : m (Str.ofString "many") = some (.int many t))
theorem add_above_ok {k : Nat} {v : Option Addr} {many : Int} {t : Tok} (e : addAbove k σ v many = some σ') (j : Dj R S) (G : Rep w.params tr dtr S σ) : FnM prog w 1 154 [optV v, .int many t] R S tr dtr σ' (fun r => r = .none) := by
  (first | with_reducible refine FnR.intro ?_ | with_reducible refine FnX.intro ?_ | with_reducible refine FnM.intro ?_ | with_reducible refine @Mine.FnS.intro _ _ _ _ _ _ _ _ _ _ ?_)
  intro p loose mean mg mb dp un gd cn cs a9 ccd cl outer A₀ base h₀ L m hp gn dr tk0 os Q E B X T hk F N hd hu hret
  refine enter [(Str.ofString "node", optV v), (Str.ofString "many", .int many t)] B F X N T rfl rfl hk (by k_is) (by k_is) (by ((conv => lhs; whnf); all_goals exact rfl)) (by ((conv => lhs; whnf); all_goals exact rfl)) (by ktr_room) (BindsTo.of_eq rfl) (locs rfl) ?_ rfl rfl rfl (by decide)
  intro g' L' h' FG' F' N' B' X' T'
  (try dsimp only)
  (try k_fold)
  refine fold_A ?_
  intro en9 ak9 hAu9
  have S9 : Site w ak9 (dp + 1) (un + 3) g' L' := Site.mk B' X' T' rfl
  k_extra "mine steps"
  refine whl_J (AaJ w.params R S tr dtr σ' many t) (by k_asm) (by k_asm) k ⟨v, σ, S, e, rfl, rfl, j, G, rfl, rfl⟩ ?_
  clear e G j N' F' N
  intro P9
  rintro k m₁ nx h tk G9 g9 ⟨v, σ, S₁, e, rfl, a1, j, G, hm, hm1⟩ F' N'
  cases k with
  | zero => cases e
  | succ k =>
    cases v with
    | none =>
      cases e
      dsimp only [optV] at hm
      refine g9 ?_
      k_extra "mine steps"
      first | exact hret _ _ _ _ (by k_asm) (by k_extra "mine drop") (by k_extra "mine addr") (by with_reducible assumption) (by with_reducible assumption) rfl | w_report
    | some a =>
      simp only [addAbove, Option.bind_eq_some_iff] at e
      obtain ⟨n, hn, e⟩ := e
      dsimp only [optV] at hm
      have hn2 : (σ.set a { n with total := n.total + many }).nd a = some { n with total := n.total + many } := St.set_self
      refine g9 ?_
      k_extra "mine steps"
      exact LoopJ.again (by k_asm) (by k_asm) (Nat.lt_succ_self k) ⟨n.parent, _, _, e, rfl, by k_extra "mine addr", by with_reducible assumption, by with_reducible assumption, by k_extra "mine look", by k_extra "mine look"⟩
end
end TM3

section TP0
open PySem PySem.W PyProof.Rows
set_option maxRecDepth 10000
set_option maxHeartbeats 1000000

/-- one interval of the tree: its address, its dict's, its own length, its plist -/
structure It where
  a : Addr
  d : Addr
  own : Int
  pl : Addr

inductive T where
  | leaf
  | node (l : T) (x : It) (r : T)

noncomputable def T.root : T → Option Addr
  | .leaf => none
  | .node _ x _ => some x.a
noncomputable def T.io : T → List It
  | .leaf => []
  | .node l x r => l.io ++ x :: r.io
noncomputable def T.tot : T → Int
  | .leaf => 0
  | .node l x r => l.tot + x.own + r.tot
noncomputable def T.cnt : T → Nat
  | .leaf => 0
  | .node l _ r => l.cnt + r.cnt + 1
noncomputable def owns (l : List It) : Int := (l.map It.own).sum
theorem lnj10 : True := by
  (k_with "off j4" => skip)
  trivial
theorem owns_nil : owns [] = 0 := rfl
theorem owns_cons (x : It) (l : List It) : owns (x :: l) = x.own + owns l := by simp [owns]
theorem owns_append (l l' : List It) : owns (l ++ l') = owns l + owns l' := by simp [owns]
theorem T.tot_io (t : T) : t.tot = owns t.io := by
  induction t with
  | leaf => rfl
  | node l x r il ir => simp only [T.tot, T.io, owns_append, owns_cons, il, ir]; (first | lia | omega)
theorem T.cnt_io (t : T) : t.cnt = t.io.length := by
  induction t with
  | leaf => rfl
  | node l x r il ir => simp only [T.cnt, T.io, List.length_append, List.length_cons, il, ir]; (first | lia | omega)

noncomputable def Sub (σ : St) : Option Addr → T → Prop
  | _, .leaf => True
  | p, .node l x r => σ.nd x.a = some ⟨x.d, l.tot + x.own + r.tot, x.pl, l.root, r.root, p⟩ ∧ Sub σ (some x.a) l ∧ Sub σ (some x.a) r

inductive Fm where
  | L (x : It) (r : T)
  | R (l : T) (x : It)
noncomputable def plug : List Fm → T → T
  | [], t => t
  | .L x r :: C, t => plug C (.node t x r)
  | .R l x :: C, t => plug C (.node l x t)
noncomputable def par : List Fm → Option Addr
  | [] => none
  | .L x _ :: _ => some x.a
  | .R _ x :: _ => some x.a
noncomputable def CtxH (σ : St) : List Fm → Option Addr → Int → Prop
  | [], v, _ => σ.root = v
  | .L x r :: C, v, k => σ.nd x.a = some ⟨x.d, k + x.own + r.tot, x.pl, v, r.root, par C⟩ ∧ Sub σ (some x.a) r ∧ CtxH σ C (some x.a) (k + x.own + r.tot)
  | .R l x :: C, v, k => σ.nd x.a = some ⟨x.d, l.tot + x.own + k, x.pl, l.root, v, par C⟩ ∧ Sub σ (some x.a) l ∧ CtxH σ C (some x.a) (l.tot + x.own + k)
noncomputable def bef : List Fm → List It
  | [] => []
  | .L _ _ :: C => bef C
  | .R l x :: C => bef C ++ (l.io ++ [x])
noncomputable def aft : List Fm → List It
  | [] => []
  | .L x r :: C => x :: (r.io ++ aft C)
  | .R _ _ :: C => aft C
theorem plug_io (C : List Fm) : ∀ t, (plug C t).io = bef C ++ (t.io ++ aft C) := by
  induction C with
  | nil => intro t; simp [plug, bef, aft]
  | cons f C ih =>
    intro t
    cases f <;> simp [plug, bef, aft, ih, T.io]
noncomputable abbrev Pw (l : List It) : Prop := l.Pairwise fun x y => x.a ≠ y.a
/-- y is no node of the context's -/
noncomputable def Off (C : List Fm) (y : Addr) : Prop := (∀ z ∈ bef C, z.a ≠ y) ∧ ∀ z ∈ aft C, z.a ≠ y
structure H (σ : St) (C : List Fm) (t : T) : Prop where
  ctx : CtxH σ C t.root t.tot
  sub : Sub σ (par C) t
  pw : Pw (plug C t).io

theorem H.toL {σ : St} {C : List Fm} {l r : T} {x : It} (h : H σ C (.node l x r)) : H σ (.L x r :: C) l := ⟨⟨h.sub.1, h.sub.2.2, h.ctx⟩, h.sub.2.1, h.pw⟩
theorem H.ofL {σ : St} {C : List Fm} {l r : T} {x : It} (h : H σ (.L x r :: C) l) : H σ C (.node l x r) := ⟨h.ctx.2.2, ⟨h.ctx.1, h.sub, h.ctx.2.1⟩, h.pw⟩
theorem H.toR {σ : St} {C : List Fm} {l r : T} {x : It} (h : H σ C (.node l x r)) : H σ (.R l x :: C) r := ⟨⟨h.sub.1, h.sub.2.1, h.ctx⟩, h.sub.2.2, h.pw⟩
theorem H.ofR {σ : St} {C : List Fm} {l r : T} {x : It} (h : H σ (.R l x :: C) r) : H σ C (.node l x r) := ⟨h.ctx.2.2, ⟨h.ctx.1, h.ctx.2.1, h.sub⟩, h.pw⟩
theorem plug_append (D C : List Fm) : ∀ t, plug (D ++ C) t = plug C (plug D t) := by
  induction D with
  | nil => intro t; rfl
  | cons f D ih => intro t; cases f <;> exact ih _
theorem H.plug_iff {σ : St} {C : List Fm} (D : List Fm) : ∀ {t : T}, H σ C (plug D t) ↔ H σ (D ++ C) t := by
  induction D with
  | nil => intro t; exact Iff.rfl
  | cons f D ih =>
    intro t
    cases f with
    | L x r => exact ih.trans ⟨H.toL, H.ofL⟩
    | R l x => exact ih.trans ⟨H.toR, H.ofR⟩
/-- the node of the tree under that address -/
theorem at_node {t : T} {y : Addr} (h : y ∈ t.io.map It.a) : ∃ C l x r, t = plug C (.node l x r) ∧ x.a = y := by
  suffices g : ∀ D, ∃ C l x r, plug D t = plug C (.node l x r) ∧ x.a = y by simpa [plug] using g []
  induction t with
  | leaf => simp [T.io] at h
  | node l x r il ir =>
    intro D
    simp only [T.io, List.map_append, List.map_cons, List.mem_append, List.mem_cons] at h
    rcases h with h | h | h
    · exact il h (.L x r :: D)
    · exact ⟨D, l, x, r, rfl, h.symm⟩
    · exact ir h (.R l x :: D)

theorem Sub.frame {σ σ' : St} : ∀ {t : T} {p : Option Addr}, (∀ y ∈ t.io, σ'.nd y.a = σ.nd y.a) → Sub σ p t → Sub σ' p t
  | .leaf, _, _, _ => trivial
  | .node l x r, p, h, s => ⟨(h x (by simp [T.io])).trans s.1, Sub.frame (fun y hy => h y (by simp [T.io, hy])) s.2.1, Sub.frame (fun y hy => h y (by simp [T.io, hy])) s.2.2⟩
theorem CtxH.frame {σ σ' : St} (hr : σ'.root = σ.root) : ∀ {C : List Fm} {v : Option Addr} {k : Int}, (∀ y, ¬ Off C y → σ'.nd y = σ.nd y) → CtxH σ C v k → CtxH σ' C v k
  | [], v, k, _, s => hr.trans s
  | .L x r :: C, v, k, h, s => ⟨(h x.a (fun o => o.2 x (by simp [aft]) rfl)).trans s.1, Sub.frame (fun y hy => h y.a (fun o => o.2 y (by simp [aft, hy]) rfl)) s.2.1,
      CtxH.frame hr (fun y hy => h y fun o => hy ⟨o.1, fun z hz => o.2 z (by simp [aft, hz])⟩) s.2.2⟩
  | .R l x :: C, v, k, h, s => ⟨(h x.a (fun o => o.1 x (by simp [bef]) rfl)).trans s.1, Sub.frame (fun y hy => h y.a (fun o => o.1 y (by simp [bef, hy]) rfl)) s.2.1,
      CtxH.frame hr (fun y hy => h y fun o => hy ⟨fun z hz => o.1 z (by simp [bef, hz]), o.2⟩) s.2.2⟩
theorem Sub.at_root {σ : St} {t : T} {p : Option Addr} {b : Addr} (s : Sub σ p t) (h : t.root = some b) : ∃ n, σ.nd b = some n ∧ n.total = t.tot ∧ n.parent = p := by
  cases t with
  | leaf => cases h
  | node l x r => cases h; exact ⟨_, s.1, rfl, rfl⟩
theorem Sub.move {σ σ' : St} {t : T} {p p' : Option Addr} (s : Sub σ p t) (pw : Pw t.io) (h : ∀ y ∈ t.io, t.root ≠ some y.a → σ'.nd y.a = σ.nd y.a)
    (hb : ∀ b n, t.root = some b → σ.nd b = some n → σ'.nd b = some { n with parent := p' }) : Sub σ' p' t := by
  cases t with
  | leaf => trivial
  | node l x r =>
    simp only [T.io, Pw, List.pairwise_append, List.pairwise_cons] at pw
    refine ⟨hb _ _ rfl s.1, Sub.frame (fun y hy => h y (by simp [T.io, hy]) fun e => ?_) s.2.1, Sub.frame (fun y hy => h y (by simp [T.io, hy]) fun e => ?_) s.2.2⟩
    · exact pw.2.2 y hy x (by simp) (Option.some.inj e).symm
    · exact pw.2.1.1 y hy (Option.some.inj e)
theorem St.set_nd {σ : St} {a y : Addr} {n : Node} : (σ.set a n).nd y = if y = a then some n else σ.nd y := rfl
theorem St.set_ne {σ : St} {a y : Addr} {n : Node} (h : y ≠ a) : (σ.set a n).nd y = σ.nd y := if_neg h
theorem St.set_eq {σ : St} {a : Addr} {n : Node} : (σ.set a n).nd a = some n := if_pos rfl

theorem addAbove_ok {m : Int} : ∀ (C : List Fm) (σ : St) (v : Option Addr) (k : Int) (f : Nat), CtxH σ C v k → Pw (bef C ++ aft C) → C.length < f →
    ∃ σ', addAbove f σ (par C) m = some σ' ∧ CtxH σ' C v (k + m) ∧ σ'.root = σ.root ∧ ∀ y, Off C y → σ'.nd y = σ.nd y
  | C, σ, v, k, 0, _, _, hf => absurd hf (Nat.not_lt_zero _)
  | [], σ, v, k, f + 1, h, _, _ => ⟨σ, rfl, h, rfl, fun _ _ => rfl⟩
  | .L x r :: C, σ, v, k, f + 1, h, pw, hf => by
    obtain ⟨h1, h2, h3⟩ := h
    simp only [bef, aft, Pw, List.pairwise_append, List.pairwise_cons, List.mem_append, List.mem_cons] at pw
    have ox : Off C x.a := ⟨fun z hz => pw.2.2 z hz x (.inl rfl), fun z hz e => pw.2.1.1 z (.inr hz) e.symm⟩
    have h3' := CtxH.frame (σ := σ) (σ' := σ.set x.a { (⟨x.d, k + x.own + r.tot, x.pl, v, r.root, par C⟩ : Node) with total := k + x.own + r.tot + m }) rfl (fun y hy => St.set_ne fun e => hy (e ▸ ox)) h3
    obtain ⟨σ', e1, e2, e3, e4⟩ := addAbove_ok (m := m) C _ _ _ f h3' (List.pairwise_append.mpr ⟨pw.1, pw.2.1.2.2.1, fun a ha b hb => pw.2.2 a ha b (.inr (.inr hb))⟩) (Nat.lt_of_succ_lt_succ hf)
    have e5 : k + m + x.own + r.tot = k + x.own + r.tot + m := by (first | lia | omega)
    refine ⟨σ', ?_, ⟨?_, ?_, ?_⟩, e3, fun y hy => ?_⟩
    · simp only [par, addAbove, h1, Option.bind_some]
      exact e1
    · rw [e4 _ ox, St.set_eq, e5]
    · refine Sub.frame (fun y hy => ?_) h2
      have oy : Off C y.a := ⟨fun z hz => pw.2.2 z hz y (.inr (.inl hy)), fun z hz e => pw.2.1.2.2.2 y hy z hz e.symm⟩
      rw [e4 _ oy, St.set_ne fun e => pw.2.1.1 y (.inl hy) e.symm]
    · rw [e5]; exact e2
    · rw [e4 y ⟨hy.1, fun z hz => hy.2 z (by simp [aft, hz])⟩, St.set_ne fun e => hy.2 x (by simp [aft]) e.symm]
  | .R l x :: C, σ, v, k, f + 1, h, pw, hf => by
    obtain ⟨h1, h2, h3⟩ := h
    simp only [bef, aft, Pw, List.pairwise_append, List.pairwise_cons, List.mem_append, List.mem_cons, List.mem_singleton] at pw
    have ox : Off C x.a := ⟨fun z hz => pw.1.2.2 z hz x (.inr (.inl rfl)), fun z hz => (fun e => pw.2.2 x (.inr (.inr (.inl rfl))) z hz e.symm)⟩
    have h3' := CtxH.frame (σ := σ) (σ' := σ.set x.a { (⟨x.d, l.tot + x.own + k, x.pl, l.root, v, par C⟩ : Node) with total := l.tot + x.own + k + m }) rfl (fun y hy => St.set_ne fun e => hy (e ▸ ox)) h3
    obtain ⟨σ', e1, e2, e3, e4⟩ := addAbove_ok (m := m) C _ _ _ f h3' (List.pairwise_append.mpr ⟨pw.1.1, pw.2.1, fun a ha b hb => pw.2.2 a (.inl ha) b hb⟩) (Nat.lt_of_succ_lt_succ hf)
    have e5 : l.tot + x.own + (k + m) = l.tot + x.own + k + m := by (first | lia | omega)
    refine ⟨σ', ?_, ⟨?_, ?_, ?_⟩, e3, fun y hy => ?_⟩
    · simp only [par, addAbove, h1, Option.bind_some]
      exact e1
    · rw [e4 _ ox, St.set_eq, e5]
    · refine Sub.frame (fun y hy => ?_) h2
      have oy : Off C y.a := ⟨fun z hz => pw.1.2.2 z hz y (.inl hy), fun z hz e => pw.2.2 y (.inr (.inl hy)) z hz e.symm⟩
      rw [e4 _ oy, St.set_ne fun e => pw.1.2.1.2.2 y hy x (.inl rfl) e]
    · rw [e5]; exact e2
    · rw [e4 y ⟨fun z hz => hy.1 z (by simp [bef, hz]), hy.2⟩, St.set_ne fun e => hy.1 x (by simp [bef]) e.symm]
end TP0

section TP1
open PySem PySem.W PyProof.Rows
set_option maxRecDepth 10000
set_option maxHeartbeats 1000000

theorem adopt_ok {σ : St} {par v : Option Addr} (hv : ∀ b, v = some b → ∃ m, σ.nd b = some m) :
    ∃ σ1, adopt σ par v = some σ1 ∧ σ1.root = σ.root ∧ (∀ y, v ≠ some y → σ1.nd y = σ.nd y) ∧ ∀ b m, v = some b → σ.nd b = some m → σ1.nd b = some { m with parent := par } := by
  cases v with
  | none => exact ⟨σ, rfl, rfl, fun _ _ => rfl, fun _ _ e => by cases e⟩
  | some b =>
    obtain ⟨m, hm⟩ := hv b rfl
    refine ⟨σ.set b { m with parent := par }, by simp [adopt, hm], rfl, fun y hy => St.set_ne fun e => hy (e ▸ rfl), fun c m' e hc => ?_⟩
    cases e
    rw [hm] at hc
    cases hc
    exact St.set_eq

theorem putInStead_ok {C : List Fm} {a : Addr} {v : Option Addr} {k : Int} {σ : St} {n : Node} (hc : CtxH σ C (some a) k) (hn : σ.nd a = some n) (hp : n.parent = par C) (pw : Pw (bef C ++ aft C)) (ha : Off C a)
    (hv : ∀ b, v = some b → b ≠ a ∧ Off C b ∧ ∃ m, σ.nd b = some m) :
    ∃ σ', putInStead σ a v = some σ' ∧ CtxH σ' C v k ∧ (∀ y, Off C y → v ≠ some y → σ'.nd y = σ.nd y) ∧ ∀ b m, v = some b → σ.nd b = some m → σ'.nd b = some { m with parent := par C } := by
  obtain ⟨σ1, e1, r1, k1, m1⟩ := adopt_ok (par := n.parent) fun b hb => (hv b hb).2.2
  rw [hp] at e1 m1
  have c1 : CtxH σ1 C (some a) k := CtxH.frame r1 (fun y hy => k1 y fun e => hy (hv y e).2.1) hc
  have a1 : σ1.nd a = some n := (k1 a fun e => (hv a e).1 rfl).trans hn
  cases C with
  | nil =>
    simp only [par] at e1
    refine ⟨σ1.withRoot v, by simp [putInStead, hn, e1, hp, par], rfl, fun y _ hy => k1 y hy, fun b m hb hm => ?_⟩
    exact m1 b m hb hm
  | cons f C =>
    cases f with
    | L x r =>
      obtain ⟨h1, h2, h3⟩ := c1
      simp only [par] at e1
      simp only [bef, aft, Pw, List.pairwise_append, List.pairwise_cons, List.mem_append, List.mem_cons] at pw
      have hax : x.a ≠ a := ha.2 x (by simp [aft])
      refine ⟨σ1.set x.a { (⟨x.d, k + x.own + r.tot, x.pl, some a, r.root, par C⟩ : Node) with left := v }, ?_, ⟨?_, ?_, ?_⟩, fun y hy hy2 => ?_, fun b m hb hm => ?_⟩
      · simp [putInStead, hn, e1, hp, par, h1, a1]
      · exact St.set_eq
      · exact Sub.frame (fun y hy => St.set_ne fun e => pw.2.1.1 y (.inl hy) e.symm) h2
      · exact CtxH.frame (σ := σ1) (σ' := σ1.set x.a _) rfl (fun y hy => St.set_ne fun e => hy (e ▸ ⟨fun z hz => pw.2.2 z hz x (.inl rfl), fun z hz e => pw.2.1.1 z (.inr hz) e.symm⟩)) h3
      · exact (St.set_ne fun e => hy.2 x (by simp [aft]) e.symm).trans (k1 y hy2)
      · exact (St.set_ne fun e => (hv b hb).2.1.2 x (by simp [aft]) e.symm).trans (m1 b m hb hm)
    | R l x =>
      obtain ⟨h1, h2, h3⟩ := c1
      simp only [par] at e1
      simp only [bef, aft, Pw, List.pairwise_append, List.pairwise_cons, List.mem_append, List.mem_cons] at pw
      have hax : x.a ≠ a := ha.1 x (by simp [bef])
      refine ⟨σ1.set x.a { (⟨x.d, l.tot + x.own + k, x.pl, l.root, some a, par C⟩ : Node) with right := v }, ?_, ⟨?_, ?_, ?_⟩, fun y hy hy2 => ?_, fun b m hb hm => ?_⟩
      · cases hl : l.root with
        | none => simp [putInStead, hn, e1, hp, par, h1, a1, hl]
        | some b =>
          obtain ⟨m, hm, _, _⟩ := h2.at_root hl
          have hba : b ≠ a := by
            cases l with
            | leaf => cases hl
            | node l2 x2 r2 =>
              cases hl
              exact ha.1 x2 (by simp [bef, T.io])
          simp [putInStead, hn, e1, hp, par, h1, a1, hl, hm, hba]
      · exact St.set_eq
      · exact Sub.frame (fun y hy => St.set_ne fun e => pw.1.2.1.2.2 y hy x (.inl rfl) e) h2
      · exact CtxH.frame (σ := σ1) (σ' := σ1.set x.a _) rfl (fun y hy => St.set_ne fun e => hy (e ▸ ⟨fun z hz => pw.1.2.2 z hz x (.inr (.inl rfl)), fun z hz e => pw.2.2 x (.inr (.inr (.inl rfl))) z hz e.symm⟩)) h3
      · exact (St.set_ne fun e => hy.1 x (by simp [bef]) e.symm).trans (k1 y hy2)
      · exact (St.set_ne fun e => (hv b hb).2.1.1 x (by simp [bef]) e.symm).trans (m1 b m hb hm)

theorem totalOf_root {σ : St} {t : T} {p : Option Addr} (s : Sub σ p t) : totalOf σ t.root = some t.tot := by
  cases t with
  | leaf => rfl
  | node l x r => simp [T.root, totalOf, s.1, T.tot]

theorem H.pwC {σ : St} {C : List Fm} {t : T} (h : H σ C t) : Pw (bef C ++ aft C) ∧ Pw t.io ∧ ∀ y ∈ t.io, Off C y.a := by
  have pw := h.pw
  rw [plug_io] at pw
  simp only [Pw, List.pairwise_append, List.mem_append] at pw ⊢
  exact ⟨⟨pw.1, pw.2.1.2.1, fun a ha b hb => pw.2.2 a ha b (.inr hb)⟩, pw.2.1.1, fun y hy => ⟨fun z hz => pw.2.2 z hz y (.inl hy), fun z hz e => pw.2.1.2.2 y hy z hz e.symm⟩⟩

theorem rotR_ok {σ : St} {C : List Fm} {sl sr r : T} {s x : It} (h : H σ C (.node (.node sl s sr) x r)) : ∃ σ', rotR σ x.a = some (σ', s.a) ∧ H σ' C (.node sl s (.node sr x r)) := by
  obtain ⟨pwc, pwt, off⟩ := h.pwC
  obtain ⟨hc, ⟨hx, ⟨hs, hsl, hsr⟩, hr⟩, pw⟩ := h
  have ox := off x (by simp [T.io])
  have os := off s (by simp [T.io])
  simp only [T.io, Pw, List.pairwise_append, List.pairwise_cons, List.mem_append, List.mem_cons] at pwt
  obtain ⟨⟨p1, ⟨p2, p3⟩, p4⟩, ⟨p5, p6⟩, p7⟩ := pwt
  have nsx : s.a ≠ x.a := p7 s (.inr (.inl rfl)) x (.inl rfl)
  have nlx : ∀ y ∈ sl.io, y.a ≠ x.a := fun y hy => p7 y (.inl hy) x (.inl rfl)
  have nls : ∀ y ∈ sl.io, y.a ≠ s.a := fun y hy => p4 y hy s (.inl rfl)
  have nrx : ∀ y ∈ sr.io, y.a ≠ x.a := fun y hy => p7 y (.inr (.inr hy)) x (.inl rfl)
  have nrs : ∀ y ∈ sr.io, y.a ≠ s.a := fun y hy e => p2 y hy e.symm
  have nqx : ∀ y ∈ r.io, y.a ≠ x.a := fun y hy e => p5 y hy e.symm
  have nqs : ∀ y ∈ r.io, y.a ≠ s.a := fun y hy e => p7 s (.inr (.inl rfl)) y (.inr hy) e.symm
  obtain ⟨σ1, e1, c1, k1, m1⟩ := putInStead_ok (v := some s.a) hc hx rfl pwc ox fun b hb => by
    cases hb
    exact ⟨nsx, os, _, hs⟩
  have x1 : σ1.nd x.a = _ := (k1 _ ox fun e => nsx (Option.some.inj e)).trans hx
  have s1 := m1 _ _ rfl hs
  have keep : ∀ y : It, (y ∈ sl.io ∨ y ∈ sr.io ∨ y ∈ r.io) → σ1.nd y.a = σ.nd y.a := fun y hy => k1 _ (off y (by simp only [T.io, List.mem_append, List.mem_cons]; rcases hy with hy | hy | hy <;> simp [hy])) fun e => by
    rcases hy with hy | hy | hy
    · exact nls y hy (Option.some.inj e).symm
    · exact nrs y hy (Option.some.inj e).symm
    · exact nqs y hy (Option.some.inj e).symm
  have keepC : ∀ {σ2 : St}, σ2.root = σ1.root → (∀ y, y ≠ x.a → y ≠ s.a → sr.root ≠ some y → σ2.nd y = σ1.nd y) → CtxH σ2 C (some s.a) (sl.tot + s.own + (sr.tot + x.own + r.tot)) := fun {σ2} e1 e2 => by
    have c2 : CtxH σ1 C (some s.a) (sl.tot + s.own + (sr.tot + x.own + r.tot)) := by
      have e : (T.node (.node sl s sr) x r).tot = sl.tot + s.own + (sr.tot + x.own + r.tot) := by simp only [T.tot]; (first | lia | omega)
      rw [← e]; exact c1
    refine CtxH.frame (σ := σ1) e1 (fun y hy => e2 y (fun e => hy (e ▸ ox)) (fun e => hy (e ▸ os)) fun e => ?_) c2
    cases sr with
    | leaf => cases e
    | node a b c => cases e; exact hy (off b (by simp [T.io]))
  have ksl : Sub σ1 (some s.a) sl := Sub.frame (fun y hy => keep y (.inl hy)) hsl
  have ksr : Sub σ1 (some s.a) sr := Sub.frame (fun y hy => keep y (.inr (.inl hy))) hsr
  have kr : Sub σ1 (some x.a) r := Sub.frame (fun y hy => keep y (.inr (.inr hy))) hr
  have hT : (T.node (T.node sl s sr) x r).tot = sl.tot + s.own + (sr.tot + x.own + r.tot) := by simp only [T.tot]; (first | lia | omega)
  have nxs : x.a ≠ s.a := Ne.symm nsx
  have fin : ∀ {σ2 : St}, σ2.root = σ1.root → σ2.nd s.a = some ⟨s.d, sl.tot + s.own + (sr.tot + x.own + r.tot), s.pl, sl.root, some x.a, par C⟩ → σ2.nd x.a = some ⟨x.d, sr.tot + x.own + r.tot, x.pl, sr.root, r.root, some s.a⟩ →
      (∀ b n, sr.root = some b → σ1.nd b = some n → σ2.nd b = some { n with parent := some x.a }) → (∀ y, y ≠ x.a → y ≠ s.a → sr.root ≠ some y → σ2.nd y = σ1.nd y) → H σ2 C (.node sl s (.node sr x r)) := fun {σ2} e1 e2 e3 e4 e5 => by
    refine ⟨keepC e1 e5, ⟨e2, Sub.frame (fun y hy => e5 _ (nlx y hy) (nls y hy) fun e => ?_) ksl, ⟨e3, Sub.move ksr p3 (fun y hy e => e5 _ (nrx y hy) (nrs y hy) e) e4, Sub.frame (fun y hy => e5 _ (nqx y hy) (nqs y hy) fun e => ?_) kr⟩⟩, ?_⟩
    · cases sr with
      | leaf => cases e
      | node a b c => exact p4 y hy b (.inr (by simp [T.io])) (Option.some.inj e).symm
    · cases sr with
      | leaf => cases e
      | node a b c => exact p7 b (.inr (.inr (by simp [T.io]))) y (.inr hy) (Option.some.inj e)
    · rw [plug_io] at pw ⊢
      simpa [T.io] using pw
  have k0 := totalOf_root ksr
  cases sr with
  | leaf =>
    simp only [T.root] at x1 s1 k0 hx
    simp only [rotR, hx, e1, x1, s1, k0, Option.bind_some, setLeft, setRight, St.set_eq, St.set_ne nsx, St.set_ne nxs]
    refine ⟨_, rfl, fin rfl ?_ ?_ ?_ ?_⟩
    · simp [St.set_nd, T.tot, T.root]; (first | lia | omega)
    · simp [St.set_nd, nxs, T.tot, T.root]; (first | lia | omega)
    · intro b n e; cases e
    · intro y h1 h2 _; simp [St.set_nd, h1, h2]
  | node a b c =>
    have nbx : b.a ≠ x.a := nrx b (by simp [T.io])
    have nbs : b.a ≠ s.a := nrs b (by simp [T.io])
    have nxb := Ne.symm nbx
    have nsb := Ne.symm nbs
    have b1 := ksr.1
    simp only [T.root] at x1 s1 k0 hx
    simp only [rotR, hx, e1, x1, s1, k0, b1, Option.bind_some, setLeft, setRight, St.set_eq, St.set_ne nsx, St.set_ne nxs, St.set_ne nbx, St.set_ne nbs, St.set_ne nxb, St.set_ne nsb]
    refine ⟨_, rfl, fin rfl ?_ ?_ ?_ ?_⟩
    · simp [St.set_nd, nsb, T.tot, T.root]; (first | lia | omega)
    · simp [St.set_nd, nxs, nxb, T.tot, T.root]; (first | lia | omega)
    · intro b' n e hn
      cases e
      rw [b1] at hn
      cases hn
      simp [St.set_nd, nbx, nbs]
    · intro y h1 h2 h3
      have h4 : y ≠ b.a := fun e => h3 (e ▸ rfl)
      simp [St.set_nd, h1, h2, h4]
end TP1

section TP2
open PySem PySem.W PyProof.Rows
set_option maxRecDepth 10000
set_option maxHeartbeats 1000000
set_option linter.unusedSimpArgs false
theorem rotL_ok {σ : St} {C : List Fm} {sl sr l : T} {s x : It} (h : H σ C (.node l x (.node sl s sr))) : ∃ σ', rotL σ x.a = some (σ', s.a) ∧ H σ' C (.node (.node l x sl) s sr) := by
  obtain ⟨pwc, pwt, off⟩ := h.pwC
  obtain ⟨hc, ⟨hx, hl, ⟨hs, hsl, hsr⟩⟩, pw⟩ := h
  have ox := off x (by simp [T.io])
  have os := off s (by simp [T.io])
  simp only [T.io, Pw, List.pairwise_append, List.pairwise_cons, List.mem_append, List.mem_cons] at pwt
  obtain ⟨p1, ⟨p5, p2, ⟨p3, p6⟩, p4⟩, p7⟩ := pwt
  have nxs : x.a ≠ s.a := p5 s (.inr (.inl rfl))
  have nsx : s.a ≠ x.a := Ne.symm nxs
  have nlx : ∀ y ∈ l.io, y.a ≠ x.a := fun y hy => p7 y hy x (.inl rfl)
  have nls : ∀ y ∈ l.io, y.a ≠ s.a := fun y hy => p7 y hy s (.inr (.inr (.inl rfl)))
  have nrx : ∀ y ∈ sl.io, y.a ≠ x.a := fun y hy e => p5 y (.inl hy) e.symm
  have nrs : ∀ y ∈ sl.io, y.a ≠ s.a := fun y hy => p4 y hy s (.inl rfl)
  have nqx : ∀ y ∈ sr.io, y.a ≠ x.a := fun y hy e => p5 y (.inr (.inr hy)) e.symm
  have nqs : ∀ y ∈ sr.io, y.a ≠ s.a := fun y hy e => p3 y hy e.symm
  obtain ⟨σ1, e1, c1, k1, m1⟩ := putInStead_ok (v := some s.a) hc hx rfl pwc ox fun b hb => by
    cases hb
    exact ⟨nsx, os, _, hs⟩
  have x1 : σ1.nd x.a = _ := (k1 _ ox fun e => nsx (Option.some.inj e)).trans hx
  have s1 := m1 _ _ rfl hs
  have keep : ∀ y : It, (y ∈ l.io ∨ y ∈ sl.io ∨ y ∈ sr.io) → σ1.nd y.a = σ.nd y.a := fun y hy => k1 _ (off y (by simp only [T.io, List.mem_append, List.mem_cons]; rcases hy with hy | hy | hy <;> simp [hy])) fun e => by
    rcases hy with hy | hy | hy
    · exact nls y hy (Option.some.inj e).symm
    · exact nrs y hy (Option.some.inj e).symm
    · exact nqs y hy (Option.some.inj e).symm
  have hT : (T.node l x (T.node sl s sr)).tot = (l.tot + x.own + sl.tot) + s.own + sr.tot := by simp only [T.tot]; (first | lia | omega)
  have keepC : ∀ {σ2 : St}, σ2.root = σ1.root → (∀ y, y ≠ x.a → y ≠ s.a → sl.root ≠ some y → σ2.nd y = σ1.nd y) → CtxH σ2 C (some s.a) ((l.tot + x.own + sl.tot) + s.own + sr.tot) := fun {σ2} e1 e2 => by
    have c2 : CtxH σ1 C (some s.a) ((l.tot + x.own + sl.tot) + s.own + sr.tot) := by rw [← hT]; exact c1
    refine CtxH.frame (σ := σ1) e1 (fun y hy => e2 y (fun e => hy (e ▸ ox)) (fun e => hy (e ▸ os)) fun e => ?_) c2
    cases sl with
    | leaf => cases e
    | node a b c => cases e; exact hy (off b (by simp [T.io]))
  have ksl : Sub σ1 (some s.a) sl := Sub.frame (fun y hy => keep y (.inr (.inl hy))) hsl
  have ksr : Sub σ1 (some s.a) sr := Sub.frame (fun y hy => keep y (.inr (.inr hy))) hsr
  have kl : Sub σ1 (some x.a) l := Sub.frame (fun y hy => keep y (.inl hy)) hl
  have fin : ∀ {σ2 : St}, σ2.root = σ1.root → σ2.nd s.a = some ⟨s.d, (l.tot + x.own + sl.tot) + s.own + sr.tot, s.pl, some x.a, sr.root, par C⟩ → σ2.nd x.a = some ⟨x.d, l.tot + x.own + sl.tot, x.pl, l.root, sl.root, some s.a⟩ →
      (∀ b n, sl.root = some b → σ1.nd b = some n → σ2.nd b = some { n with parent := some x.a }) → (∀ y, y ≠ x.a → y ≠ s.a → sl.root ≠ some y → σ2.nd y = σ1.nd y) → H σ2 C (.node (.node l x sl) s sr) := fun {σ2} e1 e2 e3 e4 e5 => by
    refine ⟨keepC e1 e5, ⟨e2, ⟨e3, Sub.frame (fun y hy => e5 _ (nlx y hy) (nls y hy) fun e => ?_) kl, Sub.move ksl p2 (fun y hy e => e5 _ (nrx y hy) (nrs y hy) e) e4⟩, Sub.frame (fun y hy => e5 _ (nqx y hy) (nqs y hy) fun e => ?_) ksr⟩, ?_⟩
    · cases sl with
      | leaf => cases e
      | node a b c => exact p7 y hy b (.inr (.inl (by simp [T.io]))) (Option.some.inj e).symm
    · cases sl with
      | leaf => cases e
      | node a b c => exact p4 b (by simp [T.io]) y (.inr hy) (Option.some.inj e)
    · rw [plug_io] at pw ⊢
      simpa [T.io] using pw
  have k0 := totalOf_root ksl
  cases sl with
  | leaf =>
    simp only [T.root] at x1 s1 k0 hx
    simp only [rotL, hx, e1, x1, s1, k0, Option.bind_some, setLeft, setRight, St.set_eq, St.set_ne nsx, St.set_ne nxs]
    refine ⟨_, rfl, fin rfl ?_ ?_ ?_ ?_⟩
    · simp [St.set_nd, T.tot, T.root]; (first | lia | omega)
    · simp [St.set_nd, nxs, T.tot, T.root]; try (first | lia | omega)
    · intro b n e; cases e
    · intro y h1 h2 _; simp [St.set_nd, h1, h2]
  | node a b c =>
    have nbx : b.a ≠ x.a := nrx b (by simp [T.io])
    have nbs : b.a ≠ s.a := nrs b (by simp [T.io])
    have nxb := Ne.symm nbx
    have nsb := Ne.symm nbs
    have b1 := ksl.1
    simp only [T.root] at x1 s1 k0 hx
    simp only [rotL, hx, e1, x1, s1, k0, b1, Option.bind_some, setLeft, setRight, St.set_eq, St.set_ne nsx, St.set_ne nxs, St.set_ne nbx, St.set_ne nbs, St.set_ne nxb, St.set_ne nsb]
    refine ⟨_, rfl, fin rfl ?_ ?_ ?_ ?_⟩
    · simp [St.set_nd, nsb, T.tot, T.root]; (first | lia | omega)
    · simp [St.set_nd, nxs, nxb, T.tot, T.root]; try (first | lia | omega)
    · intro b' n e hn
      cases e
      rw [b1] at hn
      cases hn
      simp [St.set_nd, nbx, nbs]
    · intro y h1 h2 h3
      have h4 : y ≠ b.a := fun e => h3 (e ▸ rfl)
      simp [St.set_nd, h1, h2, h4]

noncomputable def Good (l : List It) : Prop := ∀ x ∈ l, 1 ≤ x.own
theorem Good.owns {l : List It} (g : Good l) : (l.length : Int) ≤ owns l := by
  induction l with
  | nil => simp [Mine.owns]
  | cons x l ih =>
    rw [owns_cons, List.length_cons]
    have h1 := g x (by simp)
    have h2 := ih fun y hy => g y (List.mem_cons_of_mem _ hy)
    (first | lia | omega)
theorem Good.tot {t : T} (g : Good t.io) : (t.cnt : Int) ≤ t.tot := by rw [T.tot_io, T.cnt_io]; exact g.owns
theorem Good.left {l r : T} {x : It} (g : Good (T.node l x r).io) : Good l.io := fun y hy => g y (by simp [T.io, hy])
theorem Good.right {l r : T} {x : It} (g : Good (T.node l x r).io) : Good r.io := fun y hy => g y (by simp [T.io, hy])
theorem Good.own {l r : T} {x : It} (g : Good (T.node l x r).io) : 1 ≤ x.own := g x (by simp [T.io])
noncomputable def wgt : Nat → Nat
  | 0 => 0
  | n + 1 => 19 ^ n
noncomputable def ph : T → Nat
  | .leaf => 0
  | .node l _ r => (l.tot - r.tot).natAbs * wgt (l.cnt + r.cnt) + ph l + ph r
noncomputable def bnd : Nat → Nat
  | 0 => 0
  | n + 1 => 19 ^ n - 1
theorem bnd_step : ∀ i < 6, ∀ j < 6, i + j < 6 → 18 * wgt (i + j) + bnd i + bnd j ≤ bnd (i + j + 1) := by decide
theorem ph_le {t : T} (g : Good t.io) (h1 : t.tot ≤ 18) (h2 : t.cnt ≤ 6) : ph t ≤ bnd t.cnt := by
  induction t with
  | leaf => simp [ph, T.cnt, bnd]
  | node l x r il ir =>
    have gl := g.left.tot
    have gr := g.right.tot
    have go := g.own
    simp only [T.tot] at h1
    simp only [T.cnt] at h2
    have il := il g.left (by (first | lia | omega)) (by (first | lia | omega))
    have ir := ir g.right (by (first | lia | omega)) (by (first | lia | omega))
    have h3 := bnd_step l.cnt (by (first | lia | omega)) r.cnt (by (first | lia | omega)) (by (first | lia | omega))
    have h4 : (l.tot - r.tot).natAbs * wgt (l.cnt + r.cnt) ≤ 18 * wgt (l.cnt + r.cnt) := Nat.mul_le_mul_right _ (by (first | lia | omega))
    simp only [ph, T.cnt]
    (first | lia | omega)
theorem wgt_step : ∀ a < 6, ∀ b < 6, ∀ c < 6, a + b + c < 5 → 18 * wgt (b + c) < wgt (a + b + c + 1) := by decide
theorem ph_rot {a b c d1 d0 e1 : Nat} (h : a + b + c < 5) (hd : d1 < d0) (he : e1 ≤ 18) : d1 * wgt (a + b + c + 1) + e1 * wgt (b + c) < d0 * wgt (a + b + c + 1) := by
  have h1 := wgt_step a (by (first | lia | omega)) b (by (first | lia | omega)) c (by (first | lia | omega)) h
  have h2 : e1 * wgt (b + c) ≤ 18 * wgt (b + c) := Nat.mul_le_mul_right _ he
  have h3 : (d1 + 1) * wgt (a + b + c + 1) ≤ d0 * wgt (a + b + c + 1) := Nat.mul_le_mul_right _ hd
  rw [Nat.succ_mul] at h3
  (first | lia | omega)
theorem ph_rotR {sl sr r : T} {s x : It} (g : Good (T.node (.node sl s sr) x r).io) (h1 : (T.node (.node sl s sr) x r).tot ≤ 18) (h2 : (T.node (.node sl s sr) x r).cnt ≤ 6)
    (hd : (sl.tot - (sr.tot + x.own + r.tot)).natAbs < ((sl.tot + s.own + sr.tot) - r.tot).natAbs) : ph (.node sl s (.node sr x r)) < ph (.node (.node sl s sr) x r) := by
  have g1 := g.left.left.tot
  have g2 := g.left.right.tot
  have g3 := g.right.tot
  have g4 := g.own
  have g5 := g.left.own
  simp only [T.tot] at h1
  simp only [T.cnt] at h2
  have := ph_rot (a := sl.cnt) (b := sr.cnt) (c := r.cnt) (by (first | lia | omega)) hd (e1 := (sr.tot - r.tot).natAbs) (by (first | lia | omega))
  simp only [ph, T.cnt, T.tot]
  have e1 : sl.cnt + (sr.cnt + r.cnt + 1) = sl.cnt + sr.cnt + r.cnt + 1 := by (first | lia | omega)
  have e2 : sl.cnt + sr.cnt + 1 + r.cnt = sl.cnt + sr.cnt + r.cnt + 1 := by (first | lia | omega)
  rw [e1, e2]
  (first | lia | omega)
theorem ph_rotL {sl sr l : T} {s x : It} (g : Good (T.node l x (.node sl s sr)).io) (h1 : (T.node l x (.node sl s sr)).tot ≤ 18) (h2 : (T.node l x (.node sl s sr)).cnt ≤ 6)
    (hd : (sr.tot - (l.tot + x.own + sl.tot)).natAbs < ((sl.tot + s.own + sr.tot) - l.tot).natAbs) : ph (.node (.node l x sl) s sr) < ph (.node l x (.node sl s sr)) := by
  have g1 := g.right.left.tot
  have g2 := g.right.right.tot
  have g3 := g.left.tot
  have g4 := g.own
  have g5 := g.right.own
  simp only [T.tot] at h1
  simp only [T.cnt] at h2
  have := ph_rot (a := sr.cnt) (b := sl.cnt) (c := l.cnt) (by (first | lia | omega)) hd (e1 := (l.tot - sl.tot).natAbs) (by (first | lia | omega))
  simp only [ph, T.cnt, T.tot]
  have e1 : l.cnt + sl.cnt + 1 + sr.cnt = sr.cnt + sl.cnt + l.cnt + 1 := by (first | lia | omega)
  have e2 : l.cnt + (sl.cnt + sr.cnt + 1) = sr.cnt + sl.cnt + l.cnt + 1 := by (first | lia | omega)
  have e3 : l.cnt + sl.cnt = sl.cnt + l.cnt := by (first | lia | omega)
  have e4 : (l.tot + x.own + sl.tot - sr.tot).natAbs = (sr.tot - (l.tot + x.own + sl.tot)).natAbs := by (first | lia | omega)
  have e5 : (l.tot - (sl.tot + s.own + sr.tot)).natAbs = ((sl.tot + s.own + sr.tot) - l.tot).natAbs := by (first | lia | omega)
  rw [e1, e2, e3, e4, e5]
  (first | lia | omega)
theorem ph_plug {s s' : T} (et : s'.tot = s.tot) (ec : s'.cnt = s.cnt) (hp : ph s' < ph s) : ∀ C : List Fm, ph (plug C s') < ph (plug C s) := by
  intro C
  induction C generalizing s s' with
  | nil => exact hp
  | cons f C ih =>
    cases f with
    | L x r => exact ih (by simp only [T.tot, et]) (by simp only [T.cnt, ec]) (by simp only [ph, et, ec]; (first | lia | omega))
    | R l x => exact ih (by simp only [T.tot, et]) (by simp only [T.cnt, ec]) (by simp only [ph, et, ec]; (first | lia | omega))
end TP2

section TM4
open PySem PySem.W PyProof.Rows PySem.Calls PySem.Spec
set_option maxRecDepth 100000
set_option maxHeartbeats 2000000

noncomputable def settleF : Nat → St → List Addr → Addr → Option (St × Addr)
  | 0, _, _, _ => none
  | _ + 1, σ, [], top => some (σ, top)
  | k + 1, σ, here :: rest, top => if 3000000 < rest.length then none else (helpsR σ here).bind fun b => match b with
    | true => (rotR σ here).bind fun x => (x.1.nd here).bind fun _ => (x.1.nd top).bind fun _ => settleF k x.1 (here :: x.2 :: rest) (if here = top then x.2 else top)
    | false => (helpsL σ here).bind fun b => match b with
      | true => (rotL σ here).bind fun x => (x.1.nd here).bind fun _ => (x.1.nd top).bind fun _ => settleF k x.1 (here :: x.2 :: rest) (if here = top then x.2 else top)
      | false => settleF k σ rest top
section
variable {prog : Program} {w : World} {R S : Led} {tr dtr : Addr} {σ σ' : St}
noncomputable abbrev stk (ws : List Addr) : List Value := ws.reverse.map Value.ref
inductive SeJ (P : Params) (R S : Led) (tr dtr : Addr) (σ' : St) (r lw : Addr) (k : Nat) (m : Str → Option Value) (nx : Led) : Prop
  | mk (ws : List Addr) (top : Addr) (n : Nat) (σ : St) (S₁ : Led) (e : settleF k σ ws top = some (σ', r)) (hx : nx = (lw, listOf (stk ws).toArray n) :: (R ++ S₁)) (hlt : AllLt lw (R ++ S₁)) (a1 : S₁.map (·.1) = S.map (·.1)) (j : Dj R S₁) (G : Rep P tr dtr S₁ σ)
      (hm : m (Str.ofString "tree") = some (.ref tr)) (hm1 : m (Str.ofString "waiting") = some (.ref lw)) (hm2 : m (Str.ofString "top") = some (.ref top))
inductive SeI (k : Nat) (σ : St) (here : Addr) (rest : List Addr) (top : Addr) (y : St × Addr) : Prop
  | right (hl : ¬ 3000000 < rest.length) (hb : helpsR σ here = some true) (σ1 : St) (son : Addr) (hr : rotR σ here = some (σ1, son)) (n1 n2 : Node) (hn1 : σ1.nd here = some n1) (hn2 : σ1.nd top = some n2) (e : settleF k σ1 (here :: son :: rest) (if here = top then son else top) = some y)
  | left (hl : ¬ 3000000 < rest.length) (hb : helpsR σ here = some false) (hb2 : helpsL σ here = some true) (σ1 : St) (son : Addr) (hr : rotL σ here = some (σ1, son)) (n1 n2 : Node) (hn1 : σ1.nd here = some n1) (hn2 : σ1.nd top = some n2) (e : settleF k σ1 (here :: son :: rest) (if here = top then son else top) = some y)
  | done (hl : ¬ 3000000 < rest.length) (hb : helpsR σ here = some false) (hb2 : helpsL σ here = some false) (e : settleF k σ rest top = some y)
theorem lnj11 : True := by
  (k_with "call ref#" => ((fail_if_success k_extra "off j5"); (k_here; (with_reducible show wpAny _ _ (call (Value.ref 112) _ _) _ _ _); k_dflt ((first | (refine' FnM.useV (rotate_right_ok  ?e_q ?j_q ?G_q) ?S_q ?F_q ?N_q ?hd_q ?hu_q ?_)); (case G_q => k_extra "mine rep"); (case N_q => refine' News.cut ?kN_q ?kC_q; (case kN_q => k_asm); (case kC_q => k_extra "mine cut")); (case j_q => k_extra "mine dj"); (case e_q => with_reducible assumption); (case S_q => first | with_reducible assumption | exact Site.mk (by k_asm) (by k_asm) (by k_asm) (by first | exact rfl | with_reducible assumption)); (case F_q => k_asm); (case hd_q => first | exact room (by with_reducible assumption) rfl | ktr_room); (case hu_q => first | exact unitsL (by with_reducible assumption) rfl | ktr_units); intro S9 h9 tk9 F9 N9 a9 j9 G9; (try simp only [List.cons_append] at N9); (try k_sweep); k_extra "mine sweep"))))
  (k_with "call ref#" => ((fail_if_success k_extra "off j5"); (k_here; (with_reducible show wpAny _ _ (call (Value.ref 119) _ _) _ _ _); k_dflt ((first | (refine' FnM.useV (rotate_left_ok  ?e_q ?j_q ?G_q) ?S_q ?F_q ?N_q ?hd_q ?hu_q ?_)); (case G_q => k_extra "mine rep"); (case N_q => refine' News.cut ?kN_q ?kC_q; (case kN_q => k_asm); (case kC_q => k_extra "mine cut")); (case j_q => k_extra "mine dj"); (case e_q => with_reducible assumption); (case S_q => first | with_reducible assumption | exact Site.mk (by k_asm) (by k_asm) (by k_asm) (by first | exact rfl | with_reducible assumption)); (case F_q => k_asm); (case hd_q => first | exact room (by with_reducible assumption) rfl | ktr_room); (case hu_q => first | exact unitsL (by with_reducible assumption) rfl | ktr_units); intro S9 h9 tk9 F9 N9 a9 j9 G9; (try simp only [List.cons_append] at N9); (try k_sweep); k_extra "mine sweep"))))
  (k_with "call ref#" => ((fail_if_success k_extra "off j5"); (k_here; (with_reducible show wpAny _ _ (call (Value.ref 126) _ _) _ _ _); k_dflt ((first | (refine' FnR.useV (right_turn_helps_ok  ?g_q ?e_q ?sub_q ) ?S_q ?F_q ?N_q ?hd_q ?hu_q ?_)); (case g_q => k_extra "mine rep"); (case N_q => k_asm); (case e_q => with_reducible assumption); (case sub_q => k_extra "mine sub"); (case S_q => first | with_reducible assumption | exact Site.mk (by k_asm) (by k_asm) (by k_asm) (by first | exact rfl | with_reducible assumption)); (case F_q => k_asm); (case hd_q => first | exact room (by with_reducible assumption) rfl | ktr_room); (case hu_q => first | exact unitsL (by with_reducible assumption) rfl | ktr_units); intro h9 tk9 F9 N9; (try k_sweep)))))
  (k_with "call ref#" => ((fail_if_success k_extra "off j5"); (k_here; (with_reducible show wpAny _ _ (call (Value.ref 133) _ _) _ _ _); k_dflt ((first | (refine' FnR.useV (left_turn_helps_ok  ?g_q ?e_q ?sub_q ) ?S_q ?F_q ?N_q ?hd_q ?hu_q ?_)); (case g_q => k_extra "mine rep"); (case N_q => k_asm); (case e_q => with_reducible assumption); (case sub_q => k_extra "mine sub"); (case S_q => first | with_reducible assumption | exact Site.mk (by k_asm) (by k_asm) (by k_asm) (by first | exact rfl | with_reducible assumption)); (case F_q => k_asm); (case hd_q => first | exact room (by with_reducible assumption) rfl | ktr_room); (case hu_q => first | exact unitsL (by with_reducible assumption) rfl | ktr_units); intro h9 tk9 F9 N9; (try k_sweep)))))
  trivial
theorem settleF_inv {k : Nat} {σ : St} {here : Addr} {rest : List Addr} {top : Addr} {y : St × Addr} (e : settleF (k + 1) σ (here :: rest) top = some y) : SeI k σ here rest top y := by
  simp only [settleF] at e
  split at e
  · cases e
  rename_i hl
  simp only [Option.bind_eq_some_iff] at e
  obtain ⟨b, hb, e⟩ := e
  cases b with
  | true =>
    simp only [Option.bind_eq_some_iff] at e
    obtain ⟨⟨σ1, son⟩, h1, n1, hn1, n2, hn2, e⟩ := e
    exact .right hl hb σ1 son h1 n1 n2 hn1 hn2 e
  | false =>
    simp only [Option.bind_eq_some_iff] at e
    obtain ⟨b, hb2, e⟩ := e
    cases b with
    | true =>
      simp only [Option.bind_eq_some_iff] at e
      obtain ⟨⟨σ1, son⟩, h1, n1, hn1, n2, hn2, e⟩ := e
      exact .left hl hb hb2 σ1 son h1 n1 n2 hn1 hn2 e
    | false => exact .done hl hb hb2 e
theorem settle_again {P : Params} {R S S₁ : Led} {tr dtr : Addr} {σ' σ1 : St} {r lw here son top : Addr} {rest : List Addr} {k n : Nat} {h₀ h : Heap} {L : Addr} {m : Str → Option Value} {Q : Flow → Shared → Prop} {gn : Array GenState} {dr : Drawn} {os : OsState} {tk : Nat} {b : Addr} (e : settleF k σ1 (here :: son :: rest) (if here = top then son else top) = some (σ', r))
    (F : Fr h₀ L h m) (N : News h₀ L h ((lw, listOf (stk rest ++ [Value.ref son, Value.ref here]).toArray n) :: (R ++ S₁))) (hlt : AllLt lw (R ++ S₁)) (a1 : S₁.map (·.1) = S.map (·.1)) (j : Dj R S₁) (G : Rep P tr dtr S₁ σ1)
    (hm : m (Str.ofString "tree") = some (.ref tr)) (hm1 : m (Str.ofString "waiting") = some (.ref lw)) (hm2 : m (Str.ofString "top") = some (.ref b)) (hb : b = if here = top then son else top) : LoopJ h₀ L (SeJ P R S tr dtr σ' r lw) Q gn dr os (k + 1) .next ⟨h, gn, dr, tk, os⟩ := by
  subst hb
  have hw : stk (here :: son :: rest) = stk rest ++ [Value.ref son, Value.ref here] := by simp [stk]
  exact LoopJ.again F N (Nat.lt_succ_self k) ⟨here :: son :: rest, _, n, σ1, S₁, e, by rw [hw], hlt, a1, j, G, hm, hm1, hm2⟩
section
theorem lnj12 : True := by
  (k_with "ite#" => ((fail_if_success k_extra "off j6"); (first | refine ite_pos (by with_reducible assumption) ?_ | refine ite_neg (by with_reducible assumption) ?_ | refine ite_neg (ne_tr (by with_reducible assumption)) ?_ | refine ite_pos (by decide) ?_ | refine ite_neg (by decide) ?_ | refine ite_stop ?_)))
  trivial
theorem settle_ok {k : Nat} {a r : Addr} (e : settleF k σ [a] a = some (σ', r)) (j : Dj R S) (G : Rep w.params tr dtr S σ) : FnM prog w 3 140 [.ref tr, .ref a] R S tr dtr σ' (fun v => v = .ref r) := by
  (first | with_reducible refine FnR.intro ?_ | with_reducible refine FnX.intro ?_ | with_reducible refine FnM.intro ?_ | with_reducible refine @Mine.FnS.intro _ _ _ _ _ _ _ _ _ _ ?_)
  intro p loose mean mg mb dp un gd cn cs a9 ccd cl outer A₀ base h₀ L m hp gn dr tk0 os Q E B X T hk F N hd hu hret
  refine enter [(Str.ofString "tree", .ref tr), (Str.ofString "node", .ref a)] B F X N T rfl rfl hk (by k_is) (by k_is) (by ((conv => lhs; whnf); all_goals exact rfl)) (by ((conv => lhs; whnf); all_goals exact rfl)) (by ktr_room) (BindsTo.of_eq rfl) (locs rfl) ?_ rfl rfl rfl (by decide)
  intro g' L' h' FG' F' N' B' X' T'
  (try dsimp only)
  (try k_fold)
  refine fold_A ?_
  intro en9 ak9 hAu9
  have S9 : Site w ak9 (dp + 1) (un + 3) g' L' := Site.mk B' X' T' rfl
  k_extra "mine steps"
  rename_i lw _ hlt _ _ _ F9 N9
  refine whl_J (SeJ w.params R S tr dtr σ' r lw) F9 N9 k ⟨[a], a, _, σ, S, e, rfl, allLt_of hlt, rfl, j, G, by k_extra "mine look", by k_extra "mine look", by k_extra "mine look"⟩ ?_
  clear e G j N F9 N9 hlt
  intro P9
  rintro k m₁ nx h tk G9 g9 ⟨ws, top, n, σ, S₁, e, rfl, hlt, a1, j, G, hm, hm1, hm2⟩ F' N'
  k_sweep
  cases k with
  | zero => cases e
  | succ k =>
    cases ws with
    | nil =>
      cases e
      dsimp only [stk, List.reverse_nil, List.map_nil] at N'
      refine g9 ?_
      k_extra "mine steps"
      first | exact hret _ _ _ _ (by k_asm) (by k_extra "mine drop") (by k_extra "mine addr") (by with_reducible assumption) (by with_reducible assumption) rfl | w_report
    | cons here rest =>
      have e := settleF_inv e
      have hl : ¬ 3000000 < rest.length := by cases e <;> assumption
      have hlen2 : (stk rest).length ≤ 3000010 := by simp [stk]; omega
      have hl2 : (stk rest ++ [Value.ref here]).length = rest.length + 1 := by simp [stk]
      have hl3 : rest.length + 1 ≤ 4000000 := by omega
      have hs : stk (here :: rest) = stk rest ++ [.ref here] := by simp [stk]
      rw [hs] at N'
      clear hl hs
      obtain ⟨b, hb⟩ : ∃ b, helpsR σ here = some b := by cases e <;> exact ⟨_, by assumption⟩
      refine g9 ?_
      k_extra "mine steps"
      rcases e with ⟨_, hb0, σ1, son, hr, n1, n2, hn1, hn2, e⟩ | ⟨_, hb0, hb2, σ1, son, hr, n1, n2, hn1, hn2, e⟩ | ⟨_, hb0, hb2, e⟩ <;> (obtain rfl := Option.some.inj (hb.symm.trans hb0)) <;> clear hb0
      · refine stop_pos (by decide) ?_
        k_extra "mine steps"
        by_cases hht : here = top
        · subst hht
          k_extra "mine steps"
          exact settle_again e (by k_asm) (by k_extra "mine drop1") (allLt_addr (by with_reducible assumption) hlt) (by k_extra "mine addr") (Dj.tail (by with_reducible assumption)) (by with_reducible assumption) (by k_extra "mine look") (by k_extra "mine look") (by k_extra "mine look") (if_pos rfl).symm
        · k_extra "mine steps"
          exact settle_again e (by k_asm) (by k_extra "mine drop1") (allLt_addr (by with_reducible assumption) hlt) (by k_extra "mine addr") (Dj.tail (by with_reducible assumption)) (by with_reducible assumption) (by k_extra "mine look") (by k_extra "mine look") (by k_extra "mine look") (if_neg hht).symm
      · refine stop_neg (by decide) ?_
        k_extra "mine steps"
        by_cases hht : here = top
        · subst hht
          k_extra "mine steps"
          exact settle_again e (by k_asm) (by k_extra "mine drop1") (allLt_addr (by with_reducible assumption) hlt) (by k_extra "mine addr") (Dj.tail (by with_reducible assumption)) (by with_reducible assumption) (by k_extra "mine look") (by k_extra "mine look") (by k_extra "mine look") (if_pos rfl).symm
        · k_extra "mine steps"
          exact settle_again e (by k_asm) (by k_extra "mine drop1") (allLt_addr (by with_reducible assumption) hlt) (by k_extra "mine addr") (Dj.tail (by with_reducible assumption)) (by with_reducible assumption) (by k_extra "mine look") (by k_extra "mine look") (by k_extra "mine look") (if_neg hht).symm
      · refine stop_neg (by decide) ?_
        k_extra "mine steps"
        exact LoopJ.again (by k_asm) (by k_asm) (Nat.lt_succ_self k) ⟨rest, top, _, _, _, e, rfl, hlt, by k_extra "mine addr", j, G, by k_extra "mine look", by k_extra "mine look", by k_extra "mine look"⟩
end
end
end TM4

section TM5
open PySem PySem.W PyProof.Rows PySem.Calls PySem.Spec
set_option maxRecDepth 100000
set_option maxHeartbeats 2000000

noncomputable def settleUp : Nat → Nat → St → Option Addr → Option St
  | 0, _, _, _ => none
  | _ + 1, _, σ, none => some σ
  | k + 1, f, σ, some a => (settleF f σ [a] a).bind fun x => (x.1.nd x.2).bind fun n => settleUp k f x.1 n.parent
noncomputable def finishIn (f : Nat) (σ1 : St) (fresh : Addr) : Option St := (σ1.nd fresh).bind fun m => (addAbove f σ1 m.parent m.total).bind fun σ2 => (σ2.nd fresh).bind fun m2 => settleUp f f σ2 m2.parent
noncomputable def putBehind (f : Nat) (σ : St) (a fresh : Addr) : Option St := (σ.nd a).bind fun n => match n.right with
  | none => (setRight σ a (some fresh)).bind fun σ1 => finishIn f σ1 fresh
  | some _ => none
noncomputable def dropI (f : Nat) (σ : St) (a : Addr) : Option St := (σ.nd a).bind fun n => (ownLen σ a).bind fun own => (addAbove f σ n.parent (0 - own)).bind fun σ1 => (σ1.nd a).bind fun n1 => match n1.right with
  | some _ => none
  | none => (putInStead σ1 a n1.left).bind fun σ2 => settleUp f f σ2 n1.parent
section
variable {prog : Program} {w : World} {R S : Led} {tr dtr : Addr} {σ σ' : St}
inductive SuJ (P : Params) (R S : Led) (tr dtr : Addr) (σ' : St) (f : Nat) (k : Nat) (m : Str → Option Value) (nx : Led) : Prop
  | mk (v : Option Addr) (σ : St) (S₁ : Led) (e : settleUp k f σ v = some σ') (hx : nx = R ++ S₁) (a1 : S₁.map (·.1) = S.map (·.1)) (j : Dj R S₁) (G : Rep P tr dtr S₁ σ) (hm : m (Str.ofString "node") = some (optV v)) (hm1 : m (Str.ofString "tree") = some (.ref tr))
theorem lnj13 : True := by
  (k_with "off j6" => skip)
  (k_with "off j5" => skip)
  (k_with "call ref#" => ((fail_if_success k_extra "off j7"); (k_here; (with_reducible show wpAny _ _ (call (Value.ref 140) _ _) _ _ _); k_dflt ((first | (refine' FnM.useV (settle_ok  ?e_q ?j_q ?G_q) ?S_q ?F_q ?N_q ?hd_q ?hu_q ?_)); (case G_q => k_extra "mine rep"); (case N_q => refine' News.cut ?kN_q ?kC_q; (case kN_q => k_asm); (case kC_q => k_extra "mine cut")); (case j_q => k_extra "mine dj"); (case e_q => with_reducible assumption); (case S_q => first | with_reducible assumption | exact Site.mk (by k_asm) (by k_asm) (by k_asm) (by first | exact rfl | with_reducible assumption)); (case F_q => k_asm); (case hd_q => first | exact room (by with_reducible assumption) rfl | ktr_room); (case hu_q => first | exact unitsL (by with_reducible assumption) rfl | ktr_units); intro S9 h9 tk9 F9 N9 a9 j9 G9; (try simp only [List.cons_append] at N9); (try k_sweep); k_extra "mine sweep"))))
  trivial
theorem settle_up_ok {k f : Nat} {v : Option Addr} (e : settleUp k f σ v = some σ') (j : Dj R S) (G : Rep w.params tr dtr S σ) : FnM prog w 4 147 [.ref tr, optV v] R S tr dtr σ' (fun r => r = .none) := by
  (first | with_reducible refine FnR.intro ?_ | with_reducible refine FnX.intro ?_ | with_reducible refine FnM.intro ?_ | with_reducible refine @Mine.FnS.intro _ _ _ _ _ _ _ _ _ _ ?_)
  intro p loose mean mg mb dp un gd cn cs a9 ccd cl outer A₀ base h₀ L m hp gn dr tk0 os Q E B X T hk F N hd hu hret
  refine enter [(Str.ofString "tree", .ref tr), (Str.ofString "node", optV v)] B F X N T rfl rfl hk (by k_is) (by k_is) (by ((conv => lhs; whnf); all_goals exact rfl)) (by ((conv => lhs; whnf); all_goals exact rfl)) (by ktr_room) (BindsTo.of_eq rfl) (locs rfl) ?_ rfl rfl rfl (by decide)
  intro g' L' h' FG' F' N' B' X' T'
  (try dsimp only)
  (try k_fold)
  refine fold_A ?_
  intro en9 ak9 hAu9
  have S9 : Site w ak9 (dp + 1) (un + 3) g' L' := Site.mk B' X' T' rfl
  k_extra "mine steps"
  refine whl_J (SuJ w.params R S tr dtr σ' f) (by k_asm) (by k_asm) k ⟨v, σ, S, e, rfl, rfl, j, G, rfl, rfl⟩ ?_
  clear e G j N' F' N
  intro P9
  rintro k m₁ nx h tk G9 g9 ⟨v, σ, S₁, e, rfl, a1, j, G, hm, hm1⟩ F' N'
  cases k with
  | zero => cases e
  | succ k =>
    cases v with
    | none =>
      cases e
      dsimp only [optV] at hm
      refine g9 ?_
      k_extra "mine steps"
      first | exact hret _ _ _ _ (by k_asm) (by k_extra "mine drop") (by k_extra "mine addr") (by with_reducible assumption) (by with_reducible assumption) rfl | w_report
    | some a =>
      simp only [settleUp, Option.bind_eq_some_iff] at e
      obtain ⟨⟨σ1, top⟩, h1, n, hn, e⟩ := e
      dsimp only [optV] at hm hn e
      refine g9 ?_
      k_extra "mine steps"
      exact LoopJ.again (by k_asm) (by k_asm) (Nat.lt_succ_self k) ⟨n.parent, _, _, e, rfl, by k_extra "mine addr", by with_reducible assumption, by with_reducible assumption, by k_extra "mine look", by k_extra "mine look"⟩
theorem lnj14 : True := by
  (k_with "call ref#" => ((fail_if_success k_extra "off j7"); (k_here; (with_reducible show wpAny _ _ (call (Value.ref 147) _ _) _ _ _); k_dflt ((first | ((with_reducible show wpAny _ _ (call (Value.ref 147) [_, Value.ref _] _) _ _ _); refine' FnM.useV (settle_up_ok (v := some _) ?e_q ?j_q ?G_q) ?S_q ?F_q ?N_q ?hd_q ?hu_q ?_) | ((with_reducible show wpAny _ _ (call (Value.ref 147) [_, Value.none] _) _ _ _); refine' FnM.useV (settle_up_ok (v := none) ?e_q ?j_q ?G_q) ?S_q ?F_q ?N_q ?hd_q ?hu_q ?_) | (refine' FnM.useV (settle_up_ok  ?e_q ?j_q ?G_q) ?S_q ?F_q ?N_q ?hd_q ?hu_q ?_)); (case G_q => k_extra "mine rep"); (case N_q => refine' News.cut ?kN_q ?kC_q; (case kN_q => k_asm); (case kC_q => k_extra "mine cut")); (case j_q => k_extra "mine dj"); (case e_q => with_reducible assumption); (case S_q => first | with_reducible assumption | exact Site.mk (by k_asm) (by k_asm) (by k_asm) (by first | exact rfl | with_reducible assumption)); (case F_q => k_asm); (case hd_q => first | exact room (by with_reducible assumption) rfl | ktr_room); (case hu_q => first | exact unitsL (by with_reducible assumption) rfl | ktr_units); intro S9 h9 tk9 F9 N9 a9 j9 G9; (try simp only [List.cons_append] at N9); (try k_sweep); k_extra "mine sweep"))))
  (k_with "call ref#" => ((fail_if_success k_extra "off j7"); (k_here; (with_reducible show wpAny _ _ (call (Value.ref 154) _ _) _ _ _); k_dflt ((first | ((with_reducible show wpAny _ _ (call (Value.ref 154) [Value.ref _, _] _) _ _ _); refine' FnM.useV (add_above_ok (v := some _) ?e_q ?j_q ?G_q) ?S_q ?F_q ?N_q ?hd_q ?hu_q ?_) | ((with_reducible show wpAny _ _ (call (Value.ref 154) [Value.none, _] _) _ _ _); refine' FnM.useV (add_above_ok (v := none) ?e_q ?j_q ?G_q) ?S_q ?F_q ?N_q ?hd_q ?hu_q ?_) | (refine' FnM.useV (add_above_ok  ?e_q ?j_q ?G_q) ?S_q ?F_q ?N_q ?hd_q ?hu_q ?_)); (case G_q => k_extra "mine rep"); (case N_q => refine' News.cut ?kN_q ?kC_q; (case kN_q => k_asm); (case kC_q => k_extra "mine cut")); (case j_q => k_extra "mine dj"); (case e_q => with_reducible assumption); (case S_q => first | with_reducible assumption | exact Site.mk (by k_asm) (by k_asm) (by k_asm) (by first | exact rfl | with_reducible assumption)); (case F_q => k_asm); (case hd_q => first | exact room (by with_reducible assumption) rfl | ktr_room); (case hu_q => first | exact unitsL (by with_reducible assumption) rfl | ktr_units); intro S9 h9 tk9 F9 N9 a9 j9 G9; (try simp only [List.cons_append] at N9); (try k_sweep); k_extra "mine sweep"))))
  (k_with "call ref#" => ((fail_if_success k_extra "off j7"); (k_here; (with_reducible show wpAny _ _ (call (Value.ref 105) _ _) _ _ _); k_dflt ((first | ((with_reducible show wpAny _ _ (call (Value.ref 105) [_, Value.ref _] _) _ _ _); refine' FnM.useV (set_right_ok (son := some _) ?e_q ?j_q ?G_q) ?S_q ?F_q ?N_q ?hd_q ?hu_q ?_) | ((with_reducible show wpAny _ _ (call (Value.ref 105) [_, Value.none] _) _ _ _); refine' FnM.useV (set_right_ok (son := none) ?e_q ?j_q ?G_q) ?S_q ?F_q ?N_q ?hd_q ?hu_q ?_) | (refine' FnM.useV (set_right_ok  ?e_q ?j_q ?G_q) ?S_q ?F_q ?N_q ?hd_q ?hu_q ?_)); (case G_q => k_extra "mine rep"); (case N_q => refine' News.cut ?kN_q ?kC_q; (case kN_q => k_asm); (case kC_q => k_extra "mine cut")); (case j_q => k_extra "mine dj"); (case e_q => with_reducible assumption); (case S_q => first | with_reducible assumption | exact Site.mk (by k_asm) (by k_asm) (by k_asm) (by first | exact rfl | with_reducible assumption)); (case F_q => k_asm); (case hd_q => first | exact room (by with_reducible assumption) rfl | ktr_room); (case hu_q => first | exact unitsL (by with_reducible assumption) rfl | ktr_units); intro S9 h9 tk9 F9 N9 a9 j9 G9; (try simp only [List.cons_append] at N9); (try k_sweep); k_extra "mine sweep"))))
  (k_with "call ref#" => ((fail_if_success k_extra "off j7"); (k_here; (with_reducible show wpAny _ _ (call (Value.ref 91) _ _) _ _ _); k_dflt ((first | ((with_reducible show wpAny _ _ (call (Value.ref 91) [_, _, Value.ref _] _) _ _ _); refine' FnM.useV (put_in_stead_ok (son := some _) ?e_q ?j_q ?G_q) ?S_q ?F_q ?N_q ?hd_q ?hu_q ?_) | ((with_reducible show wpAny _ _ (call (Value.ref 91) [_, _, Value.none] _) _ _ _); refine' FnM.useV (put_in_stead_ok (son := none) ?e_q ?j_q ?G_q) ?S_q ?F_q ?N_q ?hd_q ?hu_q ?_) | (refine' FnM.useV (put_in_stead_ok  ?e_q ?j_q ?G_q) ?S_q ?F_q ?N_q ?hd_q ?hu_q ?_)); (case G_q => k_extra "mine rep"); (case N_q => refine' News.cut ?kN_q ?kC_q; (case kN_q => k_asm); (case kC_q => k_extra "mine cut")); (case j_q => k_extra "mine dj"); (case e_q => with_reducible assumption); (case S_q => first | with_reducible assumption | exact Site.mk (by k_asm) (by k_asm) (by k_asm) (by first | exact rfl | with_reducible assumption)); (case F_q => k_asm); (case hd_q => first | exact room (by with_reducible assumption) rfl | ktr_room); (case hu_q => first | exact unitsL (by with_reducible assumption) rfl | ktr_units); intro S9 h9 tk9 F9 N9 a9 j9 G9; (try simp only [List.cons_append] at N9); (try k_sweep); k_extra "mine sweep"))))
  (k_with "call ref#" => ((fail_if_success k_extra "off j7"); (k_here; (with_reducible show wpAny _ _ (call (Value.ref 77) _ _) _ _ _); k_dflt ((first | (refine' FnR.useI (own_length_ok  ?g_q ?e_q ?sub_q ) ?S_q ?F_q ?N_q ?hd_q ?hu_q ?_)); (case g_q => k_extra "mine rep"); (case N_q => k_asm); (case e_q => with_reducible assumption); (case sub_q => k_extra "mine sub"); (case S_q => first | with_reducible assumption | exact Site.mk (by k_asm) (by k_asm) (by k_asm) (by first | exact rfl | with_reducible assumption)); (case F_q => k_asm); (case hd_q => first | exact room (by with_reducible assumption) rfl | ktr_room); (case hu_q => first | exact unitsL (by with_reducible assumption) rfl | ktr_units); intro h9 tk9 F9 N9 t9; (try k_sweep)))))
  trivial
theorem put_behind_ok {f : Nat} {a x : Addr} (e : putBehind f σ a x = some σ') (j : Dj R S) (G : Rep w.params tr dtr S σ) : FnM prog w 5 196 [.ref tr, .ref a, .ref x] R S tr dtr σ' (fun r => r = .none) := by
  simp only [putBehind, Option.bind_eq_some_iff] at e
  obtain ⟨n, hn, e⟩ := e
  split at e
  · rename_i hr
    simp only [finishIn, Option.bind_eq_some_iff] at e
    obtain ⟨σ1, h1, m1, hm1, σ2, h2, m2, hm2, e⟩ := e
    (first | with_reducible refine FnR.intro ?_ | with_reducible refine FnX.intro ?_ | with_reducible refine FnM.intro ?_ | with_reducible refine @Mine.FnS.intro _ _ _ _ _ _ _ _ _ _ ?_)
    intro p loose mean mg mb dp un gd cn cs a9 ccd cl outer A₀ base h₀ L m hp gn dr tk0 os Q E B X T hk F N hd hu hret
    refine enter [(Str.ofString "tree", .ref tr), (Str.ofString "node", .ref a), (Str.ofString "fresh", .ref x)] B F X N T rfl rfl hk (by k_is) (by k_is) (by ((conv => lhs; whnf); all_goals exact rfl)) (by ((conv => lhs; whnf); all_goals exact rfl)) (by ktr_room) (BindsTo.of_eq rfl) (locs rfl) ?_ rfl rfl rfl (by decide)
    intro g' L' h' FG' F' N' B' X' T'
    (try dsimp only)
    (try k_fold)
    refine fold_A ?_
    intro en9 ak9 hAu9
    have S9 : Site w ak9 (dp + 1) (un + 3) g' L' := Site.mk B' X' T' rfl
    k_extra "mine steps"
    first | exact hret _ _ _ _ (by k_asm) (by k_extra "mine drop") (by k_extra "mine addr") (by with_reducible assumption) (by with_reducible assumption) rfl | w_report
  · cases e
theorem drop_interval_ok {f : Nat} {a : Addr} (e : dropI f σ a = some σ') (j : Dj R S) (G : Rep w.params tr dtr S σ) : FnM prog w 5 217 [.ref tr, .ref a] R S tr dtr σ' (fun r => r = .none) := by
  simp only [dropI, Option.bind_eq_some_iff] at e
  obtain ⟨n, hn, own, ho, σ1, h1, n1, hn1, e⟩ := e
  split at e
  · cases e
  · rename_i hr
    simp only [Option.bind_eq_some_iff] at e
    obtain ⟨σ2, h2, e⟩ := e
    cases hl : n1.left with
    | none =>
      rw [hl] at h2
      (first | with_reducible refine FnR.intro ?_ | with_reducible refine FnX.intro ?_ | with_reducible refine FnM.intro ?_ | with_reducible refine @Mine.FnS.intro _ _ _ _ _ _ _ _ _ _ ?_)
      intro p loose mean mg mb dp un gd cn cs a9 ccd cl outer A₀ base h₀ L m hp gn dr tk0 os Q E B X T hk F N hd hu hret
      refine enter [(Str.ofString "tree", .ref tr), (Str.ofString "node", .ref a)] B F X N T rfl rfl hk (by k_is) (by k_is) (by ((conv => lhs; whnf); all_goals exact rfl)) (by ((conv => lhs; whnf); all_goals exact rfl)) (by ktr_room) (BindsTo.of_eq rfl) (locs rfl) ?_ rfl rfl rfl (by decide)
      intro g' L' h' FG' F' N' B' X' T'
      (try dsimp only)
      (try k_fold)
      refine fold_A ?_
      intro en9 ak9 hAu9
      have S9 : Site w ak9 (dp + 1) (un + 3) g' L' := Site.mk B' X' T' rfl
      k_extra "mine steps"
      first | exact hret _ _ _ _ (by k_asm) (by k_extra "mine drop") (by k_extra "mine addr") (by with_reducible assumption) (by with_reducible assumption) rfl | w_report
    | some b =>
      rw [hl] at h2
      (first | with_reducible refine FnR.intro ?_ | with_reducible refine FnX.intro ?_ | with_reducible refine FnM.intro ?_ | with_reducible refine @Mine.FnS.intro _ _ _ _ _ _ _ _ _ _ ?_)
      intro p loose mean mg mb dp un gd cn cs a9 ccd cl outer A₀ base h₀ L m hp gn dr tk0 os Q E B X T hk F N hd hu hret
      refine enter [(Str.ofString "tree", .ref tr), (Str.ofString "node", .ref a)] B F X N T rfl rfl hk (by k_is) (by k_is) (by ((conv => lhs; whnf); all_goals exact rfl)) (by ((conv => lhs; whnf); all_goals exact rfl)) (by ktr_room) (BindsTo.of_eq rfl) (locs rfl) ?_ rfl rfl rfl (by decide)
      intro g' L' h' FG' F' N' B' X' T'
      (try dsimp only)
      (try k_fold)
      refine fold_A ?_
      intro en9 ak9 hAu9
      have S9 : Site w ak9 (dp + 1) (un + 3) g' L' := Site.mk B' X' T' rfl
      k_extra "mine steps"
      first | exact hret _ _ _ _ (by k_asm) (by k_extra "mine drop") (by k_extra "mine addr") (by with_reducible assumption) (by with_reducible assumption) rfl | w_report
theorem lnj15 : True := by
  (k_with "call ref#" => ((fail_if_success k_extra "off j7"); (k_here; (with_reducible show wpAny _ _ (call (Value.ref 84) _ _) _ _ _); k_dflt ((first | (refine' FnR.useI (text_length_ok  ?g_q ?e_q ?sub_q ) ?S_q ?F_q ?N_q ?hd_q ?hu_q ?_)); (case g_q => k_extra "mine rep"); (case N_q => k_asm); (case e_q => with_reducible assumption); (case sub_q => k_extra "mine sub"); (case S_q => first | with_reducible assumption | exact Site.mk (by k_asm) (by k_asm) (by k_asm) (by first | exact rfl | with_reducible assumption)); (case F_q => k_asm); (case hd_q => first | exact room (by with_reducible assumption) rfl | ktr_room); (case hu_q => first | exact unitsL (by with_reducible assumption) rfl | ktr_units); intro h9 tk9 F9 N9 t9; (try k_sweep)))))
  trivial
theorem split_at_ok {k : Int} {t : Tok} {news : Led} (G : Rep w.params tr dtr S σ) (e : totalOf σ σ.root = some k) (sub : ∀ p ∈ S, p ∈ news) : FnR prog w 3 210 [.ref tr, .int k t] news (fun r => r = .none) := by
  (first | with_reducible refine FnR.intro ?_ | with_reducible refine FnX.intro ?_ | with_reducible refine FnM.intro ?_ | with_reducible refine @Mine.FnS.intro _ _ _ _ _ _ _ _ _ _ ?_)
  intro p loose mean mg mb dp un gd cn cs a9 ccd cl outer A₀ base h₀ L m hp gn dr tk0 os Q E B X T hk F N hd hu hret
  refine enter [(Str.ofString "tree", .ref tr), (Str.ofString "at", .int k t)] B F X N T rfl rfl hk (by k_is) (by k_is) (by ((conv => lhs; whnf); all_goals exact rfl)) (by ((conv => lhs; whnf); all_goals exact rfl)) (by ktr_room) (BindsTo.of_eq rfl) (locs rfl) ?_ rfl rfl rfl (by decide)
  intro g' L' h' FG' F' N' B' X' T'
  (try dsimp only)
  (try k_fold)
  refine fold_A ?_
  intro en9 ak9 hAu9
  have S9 : Site w ak9 (dp + 1) (un + 3) g' L' := Site.mk B' X' T' rfl
  k_extra "mine steps"
  all_goals exact hret _ _ _ (by k_asm) (by k_extra "mine drop") rfl
theorem lnj16 : True := by
  (k_with "mine all" => ((fail_if_success k_extra "off j7"); (exact lt_ne (by with_reducible assumption))))
  trivial
theorem interval_ok {many : Int} {t : Tok} {pl : Addr} {news : Led} : FnX prog w 2 38 [.int many t, .ref pl] news (fun r news' => ∃ x dx t0 t1 t2 t3 t4 t5, r = .ref x ∧ news' = (x, instObj 38 dx) :: (dx, nodeDict w.params t0 t1 t2 t3 t4 t5 ⟨dx, many, pl, none, none, none⟩) :: news ∧ (∀ p ∈ news, p.1 < dx) ∧ @LT.lt Nat _ dx x) := by
  (first | with_reducible refine FnR.intro ?_ | with_reducible refine FnX.intro ?_ | with_reducible refine FnM.intro ?_ | with_reducible refine @Mine.FnS.intro _ _ _ _ _ _ _ _ _ _ ?_)
  intro p loose mean mg mb dp un gd cn cs a9 ccd cl outer A₀ base h₀ L m hp gn dr tk0 os Q E B X T hk F N hd hu hret
  k_dflt (refine' call_cls ?k1 ?k2 ?k3 ?k4 ?k5 ?k6 ?_; (case k1 => k_asm); (case k2 => k_asm); (case k3 => k_asm); (case k4 => k_is); (case k5 => k_is); (case k6 => k_is); k_whole; intro x' d' h' F' N' l1 l2; k_lt2 l2)
  k_dflt ktr_enter
  refine wpAny_mono ?_ (fun _ _ x => x) (fun _ _ (x : False) => x.elim)
  k_extra "mine steps"
  exact hret _ _ _ _ (by k_asm) (by k_asm) ⟨_, _, _, _, _, _, _, _, rfl, rfl, by with_reducible assumption, by with_reducible assumption⟩
end
end TM5

section TP3
open PySem PySem.W PyProof.Rows
set_option maxRecDepth 10000
set_option maxHeartbeats 1000000
set_option linter.unusedSimpArgs false
theorem lnj17 : True := by
  (k_with "off j7" => skip)
  trivial
theorem T.root_node {l r : T} {x : It} : (T.node l x r).root = some x.a := rfl
theorem Pw.off {D : List Fm} {t : T} (pw : Pw (plug D t).io) : Pw (bef D ++ aft D) ∧ Pw t.io ∧ ∀ y ∈ t.io, Off D y.a := by
  rw [plug_io] at pw
  simp only [Pw, List.pairwise_append, List.mem_append] at pw ⊢
  exact ⟨⟨pw.1, pw.2.1.2.1, fun a ha b hb => pw.2.2 a ha b (.inr hb)⟩, pw.2.1.1, fun y hy => ⟨fun z hz => pw.2.2 z hz y (.inl hy), fun z hz e => pw.2.1.2.2 y hy z hz e.symm⟩⟩
theorem helpsR_ok {σ : St} {C : List Fm} {l r : T} {x : It} (h : H σ C (.node l x r)) (g : Good (T.node l x r).io) :
    ∃ b, helpsR σ x.a = some b ∧ (b = true → ∃ sl s sr, l = .node sl s sr ∧ (sl.tot - (sr.tot + x.own + r.tot)).natAbs < ((sl.tot + s.own + sr.tot) - r.tot).natAbs) := by
  obtain ⟨hc, ⟨hx, hl, hr⟩, pw⟩ := h
  have tl := totalOf_root hl
  have tr := totalOf_root hr
  have gr := g.right.tot
  cases l with
  | leaf =>
    have : ¬ (0 < -r.tot) := by (first | lia | omega)
    refine ⟨false, ?_, fun e => by cases e⟩
    simp only [helpsR, hx, tl, tr, Option.bind_some, T.tot]
    rw [if_pos (by (first | lia | omega))]
  | node sl s sr =>
    have t1 := totalOf_root hl.2.1
    have t2 := totalOf_root hl.2.2
    simp only [T.root_node] at hx tl
    simp only [helpsR, hx, tl, tr, Option.bind_some, T.tot]
    by_cases h1 : sl.tot + s.own + sr.tot - r.tot ≤ 0
    · rw [if_pos h1]
      exact ⟨false, rfl, fun e => by cases e⟩
    · rw [if_neg h1]
      simp only [hl.1, t1, t2, Option.bind_some]
      refine ⟨_, rfl, fun e => ⟨sl, s, sr, rfl, ?_⟩⟩
      have e := of_decide_eq_true e
      split at e <;> (first | lia | omega)
theorem helpsL_ok {σ : St} {C : List Fm} {l r : T} {x : It} (h : H σ C (.node l x r)) (g : Good (T.node l x r).io) :
    ∃ b, helpsL σ x.a = some b ∧ (b = true → ∃ sl s sr, r = .node sl s sr ∧ (sr.tot - (l.tot + x.own + sl.tot)).natAbs < ((sl.tot + s.own + sr.tot) - l.tot).natAbs) := by
  obtain ⟨hc, ⟨hx, hl, hr⟩, pw⟩ := h
  have tl := totalOf_root hl
  have tr := totalOf_root hr
  have gl := g.left.tot
  cases r with
  | leaf =>
    refine ⟨false, ?_, fun e => by cases e⟩
    simp only [helpsL, hx, tl, tr, Option.bind_some, T.tot]
    rw [if_pos (by (first | lia | omega))]
  | node sl s sr =>
    have t1 := totalOf_root hr.2.1
    have t2 := totalOf_root hr.2.2
    simp only [T.root_node] at hx tr
    simp only [helpsL, hx, tl, tr, Option.bind_some, T.tot]
    by_cases h1 : sl.tot + s.own + sr.tot - l.tot ≤ 0
    · rw [if_pos h1]
      exact ⟨false, rfl, fun e => by cases e⟩
    · rw [if_neg h1]
      simp only [hr.1, t1, t2, Option.bind_some]
      refine ⟨_, rfl, fun e => ⟨sl, s, sr, rfl, ?_⟩⟩
      have e := of_decide_eq_true e
      split at e <;> (first | lia | omega)
theorem nd_of_io {σ : St} {C : List Fm} {t : T} (h : H σ C t) {y : Addr} (hy : y ∈ t.io.map It.a) : ∃ n, σ.nd y = some n := by
  obtain ⟨D, l, x, r, rfl, rfl⟩ := at_node hy
  have := (H.plug_iff D).mp h
  exact ⟨_, this.sub.1⟩
theorem T.root_io {t : T} {b : Addr} (h : t.root = some b) : b ∈ t.io.map It.a := by
  cases t with
  | leaf => cases h
  | node l x r => cases h; simp [T.io]
theorem plug_root : ∀ (C : List Fm) (hC : C ≠ []) (s : T), ∃ b, (∀ s', (plug C s').root = some b) ∧ ∃ z ∈ bef C ++ aft C, z.a = b
  | [.L x r], _, s => ⟨x.a, fun _ => rfl, x, by simp [bef, aft], rfl⟩
  | [.R l x], _, s => ⟨x.a, fun _ => rfl, x, by simp [bef, aft], rfl⟩
  | .L x r :: f :: C, _, s => by
    obtain ⟨b, h1, z, hz, e⟩ := plug_root (f :: C) (by simp) s
    refine ⟨b, fun s' => h1 _, z, ?_, e⟩
    simp only [List.mem_append] at hz ⊢
    rcases hz with hz | hz
    · exact .inl (by rw [bef]; exact hz)
    · exact .inr (by rw [aft]; simp [hz])
  | .R l x :: f :: C, _, s => by
    obtain ⟨b, h1, z, hz, e⟩ := plug_root (f :: C) (by simp) s
    refine ⟨b, fun s' => h1 _, z, ?_, e⟩
    simp only [List.mem_append] at hz ⊢
    rcases hz with hz | hz
    · exact .inl (by rw [bef]; simp [hz])
    · exact .inr (by rw [aft]; exact hz)
theorem settle_go : ∀ (k : Nat) (t : T) (σ : St) (C : List Fm) (ws : List Addr) (top : Addr), H σ C t → Good t.io → t.tot ≤ 18 → t.cnt ≤ 6 → (∀ y ∈ ws, y ∈ t.io.map It.a) → 2 * ph t + ws.length < k → ph t + ws.length ≤ 3000000 → t.root = some top →
    ∃ σ' t' top', settleF k σ ws top = some (σ', top') ∧ H σ' C t' ∧ t'.io = t.io ∧ t'.root = some top'
  | 0, _, _, _, _, _, _, _, _, _, _, h, _, _ => absurd h (Nat.not_lt_zero _)
  | k + 1, t, σ, C, [], top, h, _, _, _, _, _, _, hr => ⟨σ, t, top, rfl, h, rfl, hr⟩
  | k + 1, t, σ, C, here :: rest, top, h, g, ht, hc, hw, hk, hz, hr => by
    obtain ⟨D, l, x, r, et, ex⟩ := at_node (hw here (by simp))
    subst ex
    subst et
    have h1 := (H.plug_iff D).mp h
    have gs : Good (T.node l x r).io := fun y hy => g y (by rw [plug_io]; simp [hy])
    have bt : (T.node l x r).tot ≤ 18 ∧ (T.node l x r).cnt ≤ 6 := by
      rw [T.tot_io, plug_io, owns_append, owns_append] at ht
      rw [T.cnt_io, plug_io] at hc
      rw [T.tot_io, T.cnt_io]
      have b1 : Good (bef D) := fun y hy => g y (by rw [plug_io]; simp [hy])
      have b2 : Good (aft D) := fun y hy => g y (by rw [plug_io]; simp [hy])
      have b1 := b1.owns
      have b2 := b2.owns
      simp only [List.length_append] at hc
      (first | lia | omega)
    have hz2 : rest.length ≤ 3000000 := by simp only [List.length_cons] at hz; (first | lia | omega)
    have hlen : ¬ 3000000 < rest.length := by (first | lia | omega)
    simp only [List.length_cons] at hk hz
    have rots : ∀ (s : It) (t2 : T) (σ1 : St), H σ1 (D ++ C) t2 → t2.io = (T.node l x r).io → ph t2 < ph (.node l x r) → t2.root = some s.a → s ∈ t2.io →
        ∃ σ' t' top', ((σ1.nd x.a).bind fun _ => (σ1.nd top).bind fun _ => settleF k σ1 (x.a :: s.a :: rest) (if x.a = top then s.a else top)) = some (σ', top') ∧ H σ' C t' ∧ t'.io = (plug D (.node l x r)).io ∧ t'.root = some top' := by
      intro s t2 σ1 h2 eio hph er hs
      have h3 := (H.plug_iff D).mpr h2
      have eio2 : (plug D t2).io = (plug D (.node l x r)).io := by rw [plug_io, plug_io, eio]
      have et2 : t2.tot = (T.node l x r).tot := by rw [T.tot_io, T.tot_io, eio]
      have ec2 : t2.cnt = (T.node l x r).cnt := by rw [T.cnt_io, T.cnt_io, eio]
      have php := ph_plug et2 ec2 hph D
      have mem : ∀ y, y ∈ (plug D (.node l x r)).io.map It.a → ∃ n, σ1.nd y = some n := fun y hy => nd_of_io h3 (by rw [eio2]; exact hy)
      obtain ⟨n1, hn1⟩ := mem x.a (hw _ (by simp))
      obtain ⟨n2, hn2⟩ := mem top (T.root_io hr)
      rw [hn1, hn2]
      simp only [Option.bind_some]
      have hroot : (plug D t2).root = some (if x.a = top then s.a else top) := by
        cases D with
        | nil =>
          have e : x.a = top := Option.some.inj hr
          rw [if_pos e]
          exact er
        | cons f D =>
          obtain ⟨b, hb, z, hz, ez⟩ := plug_root (f :: D) (by simp) t2
          have e1 : b = top := Option.some.inj ((hb _).symm.trans hr)
          have hoff := (Pw.off h.pwC.2.1).2.2 x (by simp [T.io])
          have hne : x.a ≠ top := fun e2 => by
            rcases List.mem_append.mp hz with hz | hz
            · exact hoff.1 z hz (ez.trans (e1.trans e2.symm))
            · exact hoff.2 z hz (ez.trans (e1.trans e2.symm))
          rw [if_neg hne, ← e1]
          exact hb _
      have hws : ∀ y ∈ x.a :: s.a :: rest, y ∈ (plug D t2).io.map It.a := fun y hy => by
        rw [eio2]
        rcases List.mem_cons.mp hy with rfl | hy
        · exact hw _ (by simp)
        · rcases List.mem_cons.mp hy with rfl | hy
          · rw [plug_io]
            have hs2 : s ∈ (T.node l x r).io := eio ▸ hs
            exact List.mem_map.mpr ⟨s, by simp [hs2], rfl⟩
          · exact hw _ (List.mem_cons_of_mem _ hy)
      obtain ⟨σ', t', top', q1, q2, q3, q4⟩ := settle_go k (plug D t2) σ1 C (x.a :: s.a :: rest) _ h3 (by rw [eio2]; exact g) (by rw [T.tot_io, eio2, ← T.tot_io]; exact ht) (by rw [T.cnt_io, eio2, ← T.cnt_io]; exact hc) hws
        (by simp only [List.length_cons]; (first | lia | omega)) (by simp only [List.length_cons]; (first | lia | omega)) hroot
      exact ⟨σ', t', top', q1, q2, q3.trans eio2, q4⟩
    obtain ⟨b, hb, hb2⟩ := helpsR_ok h1 gs
    cases b with
    | true =>
      obtain ⟨sl, s, sr, rfl, hd⟩ := hb2 rfl
      obtain ⟨σ1, e1, h2⟩ := rotR_ok h1
      simp only [settleF, if_neg hlen, hb, e1, Option.bind_some]
      exact rots s _ σ1 h2 (by simp [T.io]) (ph_rotR gs bt.1 bt.2 hd) rfl (by simp [T.io])
    | false =>
      obtain ⟨b, hbl, hb3⟩ := helpsL_ok h1 gs
      cases b with
      | true =>
        obtain ⟨sl, s, sr, rfl, hd⟩ := hb3 rfl
        obtain ⟨σ1, e1, h2⟩ := rotL_ok h1
        simp only [settleF, if_neg hlen, hb, hbl, e1, Option.bind_some]
        exact rots s _ σ1 h2 (by simp [T.io]) (ph_rotL gs bt.1 bt.2 hd) rfl (by simp [T.io])
      | false =>
        simp only [settleF, if_neg hlen, hb, hbl, Option.bind_some]
        exact settle_go k _ σ C rest top h g ht hc (fun y hy => hw y (List.mem_cons_of_mem _ hy)) (by (first | lia | omega)) (by (first | lia | omega)) hr
/-- the whole tree is good, of at most six nodes and 18 characters -/
structure Fit (l : List It) : Prop where
  good : Good l
  tot : owns l ≤ 18
  cnt : l.length ≤ 6
theorem Fit.sub {D : List Fm} {t : T} (h : Fit (plug D t).io) : Good t.io ∧ t.tot ≤ 18 ∧ t.cnt ≤ 6 := by
  obtain ⟨g, ht, hc⟩ := h
  rw [plug_io] at g ht hc
  rw [owns_append, owns_append] at ht
  simp only [List.length_append] at hc
  have b1 : Good (bef D) := fun y hy => g y (by simp [hy])
  have b2 : Good (aft D) := fun y hy => g y (by simp [hy])
  have b1 := b1.owns
  have b2 := b2.owns
  rw [T.tot_io, T.cnt_io]
  exact ⟨fun y hy => g y (by simp [hy]), by (first | lia | omega), by (first | lia | omega)⟩
theorem settle_at {t : T} {σ : St} {C : List Fm} {a : Addr} {f : Nat} (h : H σ C t) (F : Fit (plug C t).io) (hr : t.root = some a) (hf : 6000000 ≤ f) :
    ∃ σ' t' b, settleF f σ [a] a = some (σ', b) ∧ H σ' C t' ∧ t'.io = t.io ∧ t'.root = some b := by
  obtain ⟨g, ht, hc⟩ := F.sub
  have h1 := ph_le g ht hc
  have h2 : bnd t.cnt ≤ 2476099 := by
    have : ∀ i < 7, bnd i ≤ 2476099 := by decide
    exact this _ (by (first | lia | omega))
  exact settle_go f t σ C [a] a h g ht hc (fun y hy => by rw [List.mem_singleton.mp hy]; exact T.root_io hr) (by simp only [List.length_singleton]; (first | lia | omega)) (by simp only [List.length_singleton]; (first | lia | omega)) hr
/-- the balancing from a context up to the root -/
theorem settleUp_ok {f : Nat} (hf : 6000000 ≤ f) : ∀ (C : List Fm) (t : T) (σ : St) (k : Nat), H σ C t → Fit (plug C t).io → C.length < k →
    ∃ σ' t', settleUp k f σ (par C) = some σ' ∧ H σ' [] t' ∧ t'.io = (plug C t).io
  | _, _, _, 0, _, _, h => absurd h (Nat.not_lt_zero _)
  | [], t, σ, k + 1, h, F, _ => ⟨σ, t, rfl, h, rfl⟩
  | .L x r :: C, t, σ, k + 1, h, F, hk => by
    obtain ⟨σ1, t1, b, e1, h1, eio, hr⟩ := settle_at (f := f) h.ofL F rfl hf
    have e2 : (plug C t1).io = (plug (.L x r :: C) t).io := by rw [plug, plug_io, plug_io, eio]
    obtain ⟨n, hn, _, hp⟩ := h1.sub.at_root hr
    obtain ⟨σ2, t2, e3, h3, e4⟩ := settleUp_ok hf C t1 σ1 k h1 (by rw [e2]; exact F) (Nat.lt_of_succ_lt_succ hk)
    refine ⟨σ2, t2, ?_, h3, e4.trans e2⟩
    simp only [par, settleUp, e1, Option.bind_some, hn, hp]
    exact e3
  | .R l x :: C, t, σ, k + 1, h, F, hk => by
    obtain ⟨σ1, t1, b, e1, h1, eio, hr⟩ := settle_at (f := f) h.ofR F rfl hf
    have e2 : (plug C t1).io = (plug (.R l x :: C) t).io := by rw [plug, plug_io, plug_io, eio]
    obtain ⟨n, hn, _, hp⟩ := h1.sub.at_root hr
    obtain ⟨σ2, t2, e3, h3, e4⟩ := settleUp_ok hf C t1 σ1 k h1 (by rw [e2]; exact F) (Nat.lt_of_succ_lt_succ hk)
    refine ⟨σ2, t2, ?_, h3, e4.trans e2⟩
    simp only [par, settleUp, e1, Option.bind_some, hn, hp]
    exact e3
end TP3

section TP4
open PySem PySem.W PyProof.Rows
set_option maxRecDepth 10000
set_option maxHeartbeats 1000000
set_option linter.unusedSimpArgs false
set_option linter.unusedVariables false
theorem T.root_leaf : T.leaf.root = none := rfl
theorem T.tot_leaf : T.leaf.tot = 0 := rfl
theorem par_R {l : T} {x : It} {C : List Fm} : par (.R l x :: C) = some x.a := rfl
theorem putBehind_pure {σ : St} {C : List Fm} {l : T} {x y : It} {f : Nat} (h : H σ C (.node l x .leaf)) (hy : σ.nd y.a = some ⟨y.d, y.own, y.pl, none, none, none⟩) (pw : Pw (plug C (.node l x (.node .leaf y .leaf))).io) (F : Fit (plug C (.node l x (.node .leaf y .leaf))).io) (hf : 6000000 ≤ f) (hC : C.length ≤ 6) :
    ∃ σ' t', putBehind f σ x.a y.a = some σ' ∧ H σ' [] t' ∧ t'.io = (plug C (.node l x (.node .leaf y .leaf))).io := by
  obtain ⟨pwc, pwt, off⟩ := Pw.off (D := .R l x :: C) (t := .node .leaf y .leaf) pw
  have oy := off y (by simp [T.io])
  have nxy : x.a ≠ y.a := oy.1 x (by simp [bef])
  have nyx := Ne.symm nxy
  have hx := h.sub.1
  have c0 := h.toR.ctx
  have c1 : CtxH ((σ.set x.a ⟨x.d, l.tot + x.own + 0, x.pl, l.root, some y.a, par C⟩).set y.a ⟨y.d, y.own, y.pl, none, none, some x.a⟩) (.R l x :: C) (some y.a) 0 := by
    obtain ⟨c1, c2, c3⟩ := c0
    have pw2 := h.toR.pwC.1
    simp only [bef, aft, Pw, List.pairwise_append, List.pairwise_cons, List.mem_append, List.mem_cons] at pw2
    refine ⟨?_, Sub.frame (fun z hz => ?_) c2, CtxH.frame (σ := σ) (σ' := (σ.set x.a _).set y.a _) rfl (fun z hz => ?_) c3⟩
    · rw [St.set_ne nxy, St.set_eq]
    · rw [St.set_ne (oy.1 z (by simp [bef, hz])), St.set_ne fun e => pw2.1.2.1.2.2 z hz x (.inl rfl) e]
    · have o1 : Off C y.a := ⟨fun z hz => oy.1 z (by simp [bef, hz]), oy.2⟩
      have o2 : Off C x.a := ⟨fun z hz => pw2.1.2.2 z hz x (.inr (.inl rfl)), fun z hz e => pw2.2.2 x (.inr (.inr (.inl rfl))) z hz e.symm⟩
      have n1 : z ≠ y.a := fun e => hz (e ▸ o1)
      have n2 : z ≠ x.a := fun e => hz (e ▸ o2)
      rw [St.set_ne n1, St.set_ne n2]
  obtain ⟨σ2, e2, c2, r2, k2⟩ := addAbove_ok (m := y.own) (.R l x :: C) _ _ _ f c1 pwc (by simp only [List.length_cons]; (first | lia | omega))
  have hy2 : σ2.nd y.a = some ⟨y.d, y.own, y.pl, none, none, some x.a⟩ := by rw [k2 _ oy, St.set_eq]
  have h2 : H σ2 (.R l x :: C) (.node .leaf y .leaf) := ⟨by simpa [T.root, T.tot] using c2, ⟨by simpa [T.tot, T.root, par] using hy2, trivial, trivial⟩, pw⟩
  obtain ⟨σ3, t3, e3, h3, e4⟩ := settleUp_ok hf (.R l x :: C) _ σ2 f h2 F (by simp only [List.length_cons]; (first | lia | omega))
  refine ⟨σ3, t3, ?_, h3, e4⟩
  simp only [T.root_leaf, T.tot_leaf] at hx
  rw [par_R] at e2 e3
  simp only [putBehind, hx, Option.bind_some, setRight, St.set_ne nyx, hy, finishIn, St.set_eq, e2, hy2, e3]

theorem dropI_pure {σ : St} {C : List Fm} {l : T} {x : It} {f : Nat} (h : H σ C (.node l x .leaf)) (F : Fit (plug C l).io) (hf : 6000000 ≤ f) (hC : C.length ≤ 6) :
    ∃ σ' t', dropI f σ x.a = some σ' ∧ H σ' [] t' ∧ t'.io = (plug C l).io := by
  obtain ⟨pwc, pwt, off⟩ := h.pwC
  obtain ⟨hc, ⟨hx, hl, hr⟩, pw⟩ := h
  have ox := off x (by simp [T.io])
  simp only [T.io, Pw, List.pairwise_append, List.pairwise_cons, List.mem_append, List.mem_cons] at pwt
  have tl := totalOf_root hl
  obtain ⟨σ1, e1, c1, r1, k1⟩ := addAbove_ok (m := 0 - x.own) C _ _ _ f hc pwc (by (first | lia | omega))
  have hx1 := (k1 _ ox).trans hx
  have hl1 : Sub σ1 (some x.a) l := Sub.frame (fun y hy => k1 _ (off y (by simp [T.io, hy]))) hl
  obtain ⟨σ2, e2, c2, k2, m2⟩ := putInStead_ok (v := l.root) c1 hx1 rfl pwc ox fun b hb => by
    obtain ⟨m, hm, _⟩ := hl1.at_root hb
    cases l with
    | leaf => cases hb
    | node l2 b2 r2 =>
      cases hb
      exact ⟨pwt.2.2 b2 (by simp [T.io]) x (.inl rfl), off b2 (by simp [T.io]), m, hm⟩
  have hl2 : Sub σ2 (par C) l := Sub.move hl1 pwt.1 (fun y hy e => k2 _ (off y (by simp [T.io, hy])) e) m2
  have ek : (T.node l x .leaf).tot + (0 - x.own) = l.tot := by simp only [T.tot]; (first | lia | omega)
  rw [ek] at c2
  have h2 : H σ2 C l := ⟨c2, hl2, by
    rw [plug_io] at pw ⊢
    refine List.Pairwise.sublist ?_ pw
    simp [T.io]⟩
  obtain ⟨σ3, t3, e3, h3, e4⟩ := settleUp_ok hf C _ σ2 f h2 F (by (first | lia | omega))
  refine ⟨σ3, t3, ?_, h3, e4⟩
  have t0 : totalOf σ none = some 0 := rfl
  simp only [T.root_leaf, T.tot_leaf] at hx hx1
  have eo : l.tot + x.own + 0 - l.tot - 0 = x.own := by (first | lia | omega)
  simp only [dropI, ownLen, hx, Option.bind_some, tl, t0, eo, e1, hx1, e2, e3]

theorem grow_pure {σ : St} {C : List Fm} {l r : T} {x : It} {m : Int} {f : Nat} (h : H σ C (.node l x r)) (F : Fit (plug C (.node l ⟨x.a, x.d, x.own + m, x.pl⟩ r)).io) (hf : 6000000 ≤ f) (hC : C.length ≤ 6) :
    ∃ σ1 σ' t', addAbove f σ (some x.a) m = some σ1 ∧ settleUp f f σ1 (some x.a) = some σ' ∧ H σ' [] t' ∧ t'.io = (plug C (.node l ⟨x.a, x.d, x.own + m, x.pl⟩ r)).io := by
  have h0 := h.toR
  obtain ⟨pwc, pwt, off⟩ := h0.pwC
  obtain ⟨σ1, e1, c1, r1, k1⟩ := addAbove_ok (m := m) (.R l x :: C) _ _ _ f h0.ctx pwc (by simp only [List.length_cons]; (first | lia | omega))
  obtain ⟨c2, c3, c4⟩ := c1
  have hr : Sub σ1 (some x.a) r := Sub.frame (fun y hy => k1 _ (off y hy)) h0.sub
  have ek : l.tot + x.own + (r.tot + m) = l.tot + (x.own + m) + r.tot := by (first | lia | omega)
  have h1 : H σ1 C (.node l ⟨x.a, x.d, x.own + m, x.pl⟩ r) := by
    refine ⟨?_, ⟨?_, c3, hr⟩, ?_⟩
    · simp only [T.tot, ← ek]; exact c4
    · simp only [← ek]; exact c2
    · have pw := h.pw
      have e : (plug C (.node l ⟨x.a, x.d, x.own + m, x.pl⟩ r)).io.map It.a = (plug C (.node l x r)).io.map It.a := by rw [plug_io, plug_io]; simp [T.io]
      have q := (List.pairwise_map (f := It.a) (R := (· ≠ ·))).mpr pw
      rw [← e] at q
      exact List.pairwise_map.mp q
  obtain ⟨σ3, t3, e3, h3, e4⟩ := settleUp_ok hf _ _ σ1 f h1.toR F (by simp only [List.length_cons]; (first | lia | omega))
  exact ⟨σ1, σ3, t3, e1, e3, h3, e4⟩

theorem find_ok {σ : St} {at_ : Int} : ∀ (t : T) (p : Option Addr) (begin : Int) (k : Nat) (a : Addr), Sub σ p t → Good t.io → t.root = some a → begin ≤ at_ → at_ < begin + t.tot → t.cnt ≤ k →
    ∃ pre x post, t.io = pre ++ x :: post ∧ findF k σ a begin at_ = some (x.a, begin + owns pre) ∧ begin + owns pre ≤ at_ ∧ at_ < begin + owns pre + x.own
  | .leaf, _, _, _, _, _, _, h, _, _, _ => by cases h
  | .node l x r, p, begin, 0, a, _, _, _, _, _, h => by simp [T.cnt] at h
  | .node l x r, p, begin, k + 1, a, hs, g, hr, h1, h2, hk => by
    cases hr
    obtain ⟨hx, hl, hrr⟩ := hs
    have tl := totalOf_root hl
    have tr := totalOf_root hrr
    have ex : totalOf σ (some x.a) = some (l.tot + x.own + r.tot) := by simp [totalOf, hx]
    have eo : l.tot + x.own + r.tot - l.tot - r.tot = x.own := by (first | lia | omega)
    simp only [T.cnt] at hk
    simp only [T.tot] at h2
    simp only [findF, ex, Option.bind_some, hx, tl, ownLen, tr, eo]
    by_cases c1 : at_ < begin + l.tot
    · rw [if_pos c1]
      cases hlr : l.root with
      | none =>
        cases l with
        | leaf => simp only [T.tot] at c1; (first | lia | omega)
        | node _ _ _ => cases hlr
      | some b =>
        obtain ⟨pre, y, post, e1, e2, e3, e4⟩ := find_ok (at_ := at_) l _ begin k b hl g.left hlr h1 c1 (by (first | lia | omega))
        exact ⟨pre, y, post ++ x :: r.io, by simp [T.io, e1], e2, e3, e4⟩
    · rw [if_neg c1]
      by_cases c2 : at_ < begin + l.tot + x.own
      · rw [if_pos c2]
        exact ⟨l.io, x, r.io, rfl, by rw [T.tot_io], by rw [← T.tot_io]; (first | lia | omega), by rw [← T.tot_io]; (first | lia | omega)⟩
      · rw [if_neg c2]
        cases hlr : r.root with
        | none =>
          cases r with
          | leaf => simp only [T.tot] at h2; (first | lia | omega)
          | node _ _ _ => cases hlr
        | some b =>
          obtain ⟨pre, y, post, e1, e2, e3, e4⟩ := find_ok (at_ := at_) r _ (begin + l.tot + x.own) k b hrr g.right hlr (by (first | lia | omega)) (by (first | lia | omega)) (by (first | lia | omega))
          have e5 : begin + l.tot + x.own + owns pre = begin + owns (l.io ++ x :: pre) := by rw [owns_append, owns_cons, ← T.tot_io]; (first | lia | omega)
          rw [e5] at e2 e3 e4
          exact ⟨l.io ++ x :: pre, y, post, by simp [T.io, e1], e2, e3, e4⟩
theorem rightmost_pure {σ : St} : ∀ (t : T) (p : Option Addr) (k : Nat) (a : Addr), Sub σ p t → t.root = some a → t.cnt ≤ k → ∃ y, t.io.getLast? = some y ∧ rightmostF k σ a = some y.a
  | .leaf, _, _, _, _, h, _ => by cases h
  | .node l x r, p, 0, a, _, _, h => by simp [T.cnt] at h
  | .node l x .leaf, p, k + 1, a, hs, hr, hk => by
    cases hr
    refine ⟨x, by simp [T.io], ?_⟩
    have hx := hs.1
    simp only [T.root_leaf] at hx
    simp only [rightmostF, hx, Option.bind_some]
  | .node l x (.node l2 x2 r2), p, k + 1, a, hs, hr, hk => by
    cases hr
    simp only [T.cnt] at hk
    obtain ⟨y, e1, e2⟩ := rightmost_pure (.node l2 x2 r2) _ k x2.a hs.2.2 rfl (by simp only [T.cnt]; (first | lia | omega))
    refine ⟨y, ?_, ?_⟩
    · rw [T.io, List.getLast?_append, List.getLast?_cons, e1]
      simp
    · have hx := hs.1
      simp only [T.root_node] at hx
      simp only [rightmostF, hx, Option.bind_some]
      exact e2
theorem leftmost_pure {σ : St} : ∀ (t : T) (p : Option Addr) (k : Nat) (a : Addr), Sub σ p t → t.root = some a → t.cnt ≤ k → ∃ y, t.io.head? = some y ∧ leftmostF k σ a = some y.a
  | .leaf, _, _, _, _, h, _ => by cases h
  | .node l x r, p, 0, a, _, _, h => by simp [T.cnt] at h
  | .node .leaf x r, p, k + 1, a, hs, hr, hk => by
    cases hr
    refine ⟨x, by simp [T.io], ?_⟩
    have hx := hs.1
    simp only [T.root_leaf] at hx
    simp only [leftmostF, hx, Option.bind_some]
  | .node (.node l2 x2 r2) x r, p, k + 1, a, hs, hr, hk => by
    cases hr
    simp only [T.cnt] at hk
    obtain ⟨y, e1, e2⟩ := leftmost_pure (.node l2 x2 r2) _ k x2.a hs.2.1 rfl (by simp only [T.cnt]; (first | lia | omega))
    refine ⟨y, ?_, ?_⟩
    · rw [T.io, List.head?_append, e1]
      simp
    · have hx := hs.1
      simp only [T.root_node] at hx
      simp only [leftmostF, hx, Option.bind_some]
      exact e2

theorem climbR_pure {σ : St} : ∀ (C : List Fm) (a : Addr) (k : Int) (f : Nat) (n : Node), CtxH σ C (some a) k → σ.nd a = some n → n.parent = par C → Off C a → Pw (bef C ++ aft C) → C.length < f → climbR f σ a = some ((aft C).head?.map It.a)
  | _, _, _, 0, _, _, _, _, _, _, h => absurd h (Nat.not_lt_zero _)
  | [], a, k, f + 1, n, hc, hn, hp, _, _, _ => by
    simp only [par] at hp
    simp only [climbR, hn, Option.bind_some, hp]
    rfl
  | .L x r :: C, a, k, f + 1, n, hc, hn, hp, ho, pw, hf => by
    obtain ⟨h1, h2, h3⟩ := hc
    simp only [par] at hp
    simp only [climbR, hn, Option.bind_some, hp, h1]
    have hne : r.root ≠ some a := fun e => by
      obtain ⟨y, hy, ey⟩ := List.mem_map.mp (T.root_io e)
      exact ho.2 y (by simp [aft, hy]) ey
    rw [if_neg hne]
    cases hr : r.root with
    | none => rfl
    | some b =>
      obtain ⟨m, hm, _⟩ := h2.at_root hr
      simp only [hm, Option.bind_some]
      rfl
  | .R l x :: C, a, k, f + 1, n, hc, hn, hp, ho, pw, hf => by
    obtain ⟨h1, h2, h3⟩ := hc
    simp only [par] at hp
    simp only [climbR, hn, Option.bind_some, hp, h1, if_true]
    simp only [bef, aft, Pw, List.pairwise_append, List.pairwise_cons, List.mem_append, List.mem_cons] at pw
    exact climbR_pure C x.a _ f _ h3 h1 rfl ⟨fun z hz => pw.1.2.2 z hz x (.inr (.inl rfl)), fun z hz e => pw.2.2 x (.inr (.inr (.inl rfl))) z hz e.symm⟩
      (List.pairwise_append.mpr ⟨pw.1.1, pw.2.1, fun a ha b hb => pw.2.2 a (.inl ha) b hb⟩) (Nat.lt_of_succ_lt_succ hf)
theorem climbL_pure {σ : St} : ∀ (C : List Fm) (a : Addr) (k : Int) (f : Nat) (n : Node), CtxH σ C (some a) k → σ.nd a = some n → n.parent = par C → Off C a → Pw (bef C ++ aft C) → C.length < f → climbL f σ a = some ((bef C).getLast?.map It.a)
  | _, _, _, 0, _, _, _, _, _, _, h => absurd h (Nat.not_lt_zero _)
  | [], a, k, f + 1, n, hc, hn, hp, _, _, _ => by
    simp only [par] at hp
    simp only [climbL, hn, Option.bind_some, hp]
    rfl
  | .R l x :: C, a, k, f + 1, n, hc, hn, hp, ho, pw, hf => by
    obtain ⟨h1, h2, h3⟩ := hc
    simp only [par] at hp
    simp only [climbL, hn, Option.bind_some, hp, h1]
    have hne : l.root ≠ some a := fun e => by
      obtain ⟨y, hy, ey⟩ := List.mem_map.mp (T.root_io e)
      exact ho.1 y (by simp [bef, hy]) ey
    rw [if_neg hne]
    have e : (bef (.R l x :: C)).getLast? = some x := by simp [bef]
    rw [e]
    cases hr : l.root with
    | none => rfl
    | some b =>
      obtain ⟨m, hm, _⟩ := h2.at_root hr
      simp only [hm, Option.bind_some]
      rfl
  | .L x r :: C, a, k, f + 1, n, hc, hn, hp, ho, pw, hf => by
    obtain ⟨h1, h2, h3⟩ := hc
    simp only [par] at hp
    simp only [climbL, hn, Option.bind_some, hp, h1, if_true]
    simp only [bef, aft, Pw, List.pairwise_append, List.pairwise_cons, List.mem_append, List.mem_cons] at pw
    exact climbL_pure C x.a _ f _ h3 h1 rfl ⟨fun z hz => pw.2.2 z hz x (.inl rfl), fun z hz e => pw.2.1.1 z (.inr hz) e.symm⟩
      (List.pairwise_append.mpr ⟨pw.1, pw.2.1.2.2.1, fun a ha b hb => pw.2.2 a ha b (.inr (.inr hb))⟩) (Nat.lt_of_succ_lt_succ hf)
theorem ctx_len (C : List Fm) : ∀ t : T, C.length + t.cnt ≤ (plug C t).cnt := by
  induction C with
  | nil => intro t; simp [plug]
  | cons f C ih =>
    intro t
    cases f with
    | L x r => have := ih (.node t x r); simp only [T.cnt] at this; simp only [plug, List.length_cons]; (first | lia | omega)
    | R l x => have := ih (.node l x t); simp only [T.cnt] at this; simp only [plug, List.length_cons]; (first | lia | omega)
theorem following_pure {σ : St} {C : List Fm} {l r : T} {x : It} {f : Nat} (h : H σ C (.node l x r)) (hf : (plug C (.node l x r)).cnt < f) : followingF f σ x.a = some ((r.io ++ aft C).head?.map It.a) := by
  have hl := ctx_len C (.node l x r)
  simp only [T.cnt] at hl
  obtain ⟨pwc, pwt, off⟩ := h.pwC
  have hx := h.sub.1
  simp only [followingF, hx, Option.bind_some]
  cases r with
  | leaf => exact climbR_pure C x.a _ f _ h.ctx hx rfl (off x (by simp [T.io])) pwc (by (first | lia | omega))
  | node l2 x2 r2 =>
    simp only [T.cnt] at hl
    obtain ⟨y, e1, e2⟩ := leftmost_pure (.node l2 x2 r2) _ f x2.a h.sub.2.2 rfl (by simp only [T.cnt]; (first | lia | omega))
    rw [List.head?_append, e1, T.root_node]
    simp only [e2]
    rfl
theorem preceding_pure {σ : St} {C : List Fm} {l r : T} {x : It} {f : Nat} (h : H σ C (.node l x r)) (hf : (plug C (.node l x r)).cnt < f) : precedingF f σ x.a = some ((bef C ++ l.io).getLast?.map It.a) := by
  have hl := ctx_len C (.node l x r)
  simp only [T.cnt] at hl
  obtain ⟨pwc, pwt, off⟩ := h.pwC
  have hx := h.sub.1
  simp only [precedingF, hx, Option.bind_some]
  cases l with
  | leaf =>
    rw [T.io, List.append_nil]
    exact climbL_pure C x.a _ f _ h.ctx hx rfl (off x (by simp [T.io])) pwc (by (first | lia | omega))
  | node l2 x2 r2 =>
    simp only [T.cnt] at hl
    obtain ⟨y, e1, e2⟩ := rightmost_pure (.node l2 x2 r2) _ f x2.a h.sub.2.1 rfl (by simp only [T.cnt]; (first | lia | omega))
    rw [List.getLast?_append, e1, T.root_node]
    simp only [e2]
    rfl
theorem pw_unique : ∀ {p q p' q' : List It} {x x' : It}, Pw (p ++ x :: q) → p ++ x :: q = p' ++ x' :: q' → x.a = x'.a → p = p' ∧ x = x' ∧ q = q'
  | [], q, [], q', x, x', _, e, _ => by simp at e; exact ⟨rfl, e.1, e.2⟩
  | [], q, c :: p', q', x, x', pw, e, ea => by
    simp at e
    obtain ⟨rfl, rfl⟩ := e
    simp only [List.nil_append, Pw, List.pairwise_cons] at pw
    exact absurd ea (pw.1 x' (by simp))
  | c :: p, q, [], q', x, x', pw, e, ea => by
    simp at e
    obtain ⟨rfl, rfl⟩ := e
    simp only [Pw, List.cons_append, List.pairwise_cons] at pw
    exact absurd ea.symm (pw.1 x (by simp))
  | c :: p, q, c' :: p', q', x, x', pw, e, ea => by
    simp at e
    obtain ⟨rfl, e⟩ := e
    obtain ⟨r1, r2, r3⟩ := pw_unique (List.Pairwise.of_cons pw) e ea
    exact ⟨by rw [r1], r2, r3⟩
/-- the tree at one of its items -/
theorem at_item {t : T} {pre post : List It} {x : It} (e : t.io = pre ++ x :: post) (pw : Pw t.io) : ∃ C l r, t = plug C (.node l x r) ∧ pre = bef C ++ l.io ∧ post = r.io ++ aft C := by
  obtain ⟨C, l, x', r, et, ex⟩ := at_node (t := t) (y := x.a) (by rw [e]; simp)
  have e2 : pre ++ x :: post = (bef C ++ l.io) ++ x' :: (r.io ++ aft C) := by rw [← e, et, plug_io]; simp [T.io]
  rw [e] at pw
  obtain ⟨e3, rfl, e5⟩ := pw_unique pw e2 ex.symm
  exact ⟨C, l, r, et, e3, e5⟩

/-! the tree, spoken of by its items alone -/
structure Tr (σ : St) (io : List It) : Prop where
  tree : ∃ t, H σ [] t ∧ t.io = io
theorem Tr.pw {σ : St} {io : List It} (h : Tr σ io) : Pw io := by
  obtain ⟨t, h9, rfl⟩ := h.tree
  exact h9.pw
theorem Tr.at {σ : St} {pre post : List It} {x : It} (h : Tr σ (pre ++ x :: post)) : ∃ C l r, H σ C (.node l x r) ∧ pre = bef C ++ l.io ∧ post = r.io ++ aft C ∧ (plug C (.node l x r)).cnt = (pre ++ x :: post).length := by
  obtain ⟨t, h9, e⟩ := h.tree
  obtain ⟨C, l, r, rfl, e1, e2⟩ := at_item e h9.pw
  refine ⟨C, l, r, ?_, e1, e2, by rw [T.cnt_io, e]⟩
  simpa using (H.plug_iff (C := []) C).mp h9
theorem Tr.node {σ : St} {pre post : List It} {x : It} (h : Tr σ (pre ++ x :: post)) : ∃ n, σ.nd x.a = some n ∧ n.plist = x.pl ∧ n.d = x.d := by
  obtain ⟨C, l, r, h9, _⟩ := h.at
  exact ⟨_, h9.sub.1, rfl, rfl⟩
theorem Tr.own {σ : St} {pre post : List It} {x : It} (h : Tr σ (pre ++ x :: post)) : ownLen σ x.a = some x.own := by
  obtain ⟨C, l, r, h9, _⟩ := h.at
  have e : l.tot + x.own + r.tot - l.tot - r.tot = x.own := by (first | lia | omega)
  simp only [ownLen, h9.sub.1, Option.bind_some, totalOf_root h9.sub.2.1, totalOf_root h9.sub.2.2, e]
theorem Tr.following {σ : St} {pre post : List It} {x : It} {f : Nat} (h : Tr σ (pre ++ x :: post)) (hf : (pre ++ x :: post).length < f) : followingF f σ x.a = some (post.head?.map It.a) := by
  obtain ⟨C, l, r, h9, _, rfl, hl⟩ := h.at
  exact following_pure h9 (by (first | lia | omega))
theorem Tr.preceding {σ : St} {pre post : List It} {x : It} {f : Nat} (h : Tr σ (pre ++ x :: post)) (hf : (pre ++ x :: post).length < f) : precedingF f σ x.a = some (pre.getLast?.map It.a) := by
  obtain ⟨C, l, r, h9, rfl, _, hl⟩ := h.at
  exact preceding_pure h9 (by (first | lia | omega))
theorem Tr.total {σ : St} {io : List It} (h : Tr σ io) : totalOf σ σ.root = some (owns io) := by
  obtain ⟨t, h9, rfl⟩ := h.tree
  have hc : σ.root = t.root := h9.ctx
  rw [hc, totalOf_root h9.sub, T.tot_io]
theorem Tr.find {σ : St} {io : List It} {at_ : Int} {f : Nat} (h : Tr σ io) (g : Good io) (h0 : 0 ≤ at_) (h1 : at_ < owns io) (hf : io.length ≤ f) :
    ∃ a pre x post, σ.root = some a ∧ io = pre ++ x :: post ∧ findF f σ a 0 at_ = some (x.a, owns pre) ∧ owns pre ≤ at_ ∧ at_ < owns pre + x.own := by
  obtain ⟨t, h9, rfl⟩ := h.tree
  have hc : σ.root = t.root := h9.ctx
  cases hr : t.root with
  | none =>
    cases t with
    | leaf => simp [T.io, owns] at h1; (first | lia | omega)
    | node _ _ _ => cases hr
  | some a =>
    obtain ⟨pre, x, post, e1, e2, e3, e4⟩ := find_ok (at_ := at_) t _ 0 f a h9.sub g hr (by (first | lia | omega)) (by rw [T.tot_io]; (first | lia | omega)) (by rw [T.cnt_io]; exact hf)
    simp only [Int.zero_add] at e2 e3 e4
    exact ⟨a, pre, x, post, hc.trans hr, e1, e2, e3, e4⟩
theorem Tr.rightmost {σ : St} {pre : List It} {x : It} {f : Nat} (h : Tr σ (pre ++ [x])) (hf : (pre ++ [x]).length ≤ f) : ∃ a, σ.root = some a ∧ rightmostF f σ a = some x.a := by
  obtain ⟨t, h9, e⟩ := h.tree
  have hc : σ.root = t.root := h9.ctx
  cases hr : t.root with
  | none =>
    cases t with
    | leaf => simp [T.io] at e
    | node _ _ _ => cases hr
  | some a =>
    obtain ⟨y, e1, e2⟩ := rightmost_pure t _ f a h9.sub hr (by rw [T.cnt_io, e]; exact hf)
    rw [e] at e1
    simp at e1
    subst e1
    exact ⟨a, hc.trans hr, e2⟩
/-- the last item has no right son -/
theorem Tr.last {σ : St} {pre : List It} {x : It} (h : Tr σ (pre ++ [x])) : ∃ C l, H σ C (.node l x .leaf) ∧ pre = bef C ++ l.io ∧ aft C = [] ∧ C.length ≤ pre.length := by
  obtain ⟨C, l, r, h9, e1, e2, e3⟩ := h.at
  have e4 := ctx_len C (.node l x r)
  simp only [T.cnt] at e4
  simp only [List.length_append, List.length_singleton] at e3
  cases r with
  | leaf => exact ⟨C, l, h9, e1, by simpa [T.io] using e2.symm, by (first | lia | omega)⟩
  | node a b c => simp [T.io] at e2
theorem Tr.behind {σ : St} {pre : List It} {x y : It} {f : Nat} (h : Tr σ (pre ++ [x])) (hy : σ.nd y.a = some ⟨y.d, y.own, y.pl, none, none, none⟩) (F : Fit (pre ++ [x] ++ [y])) (ha : ∀ z ∈ pre ++ [x], z.a ≠ y.a) (hf : 6000000 ≤ f) :
    ∃ σ', putBehind f σ x.a y.a = some σ' ∧ Tr σ' (pre ++ [x] ++ [y]) := by
  have pw := h.pw
  obtain ⟨C, l, h9, e1, e2, e3⟩ := h.last
  have e4 : (plug C (.node l x (.node .leaf y .leaf))).io = pre ++ [x] ++ [y] := by rw [plug_io, e1, e2]; simp [T.io]
  have hF := F.cnt
  simp only [List.length_append, List.length_singleton] at hF
  obtain ⟨σ', t', q1, q2, q3⟩ := putBehind_pure h9 hy (by rw [e4]; exact List.pairwise_append.mpr ⟨pw, by simp, fun a ha' b hb => by rw [List.mem_singleton.mp hb]; exact ha a ha'⟩) (by rw [e4]; exact F) hf (by (first | lia | omega))
  exact ⟨σ', q1, ⟨t', q2, q3.trans e4⟩⟩
theorem Tr.drop {σ : St} {pre : List It} {x : It} {f : Nat} (h : Tr σ (pre ++ [x])) (F : Fit pre) (hf : 6000000 ≤ f) : ∃ σ', dropI f σ x.a = some σ' ∧ Tr σ' pre := by
  obtain ⟨C, l, h9, e1, e2, e3⟩ := h.last
  have e4 : (plug C l).io = pre := by rw [plug_io, e1, e2]; simp
  obtain ⟨σ', t', q1, q2, q3⟩ := dropI_pure h9 (by rw [e4]; exact F) hf (by have := F.cnt; (first | lia | omega))
  exact ⟨σ', q1, ⟨t', q2, q3.trans e4⟩⟩
theorem Tr.grow {σ : St} {pre post : List It} {x : It} {m : Int} {f : Nat} (h : Tr σ (pre ++ x :: post)) (F : Fit (pre ++ ⟨x.a, x.d, x.own + m, x.pl⟩ :: post)) (hf : 6000000 ≤ f) :
    ∃ σ1 σ', addAbove f σ (some x.a) m = some σ1 ∧ settleUp f f σ1 (some x.a) = some σ' ∧ Tr σ' (pre ++ ⟨x.a, x.d, x.own + m, x.pl⟩ :: post) := by
  obtain ⟨C, l, r, h9, e1, e2, e3⟩ := h.at
  have e5 := ctx_len C (.node l x r)
  have hF := F.cnt
  have e4 : (plug C (.node l ⟨x.a, x.d, x.own + m, x.pl⟩ r)).io = pre ++ ⟨x.a, x.d, x.own + m, x.pl⟩ :: post := by rw [plug_io, e1, e2]; simp [T.io]
  simp only [List.length_append, List.length_cons] at e3 hF
  obtain ⟨σ1, σ', t', q1, q2, q3, q4⟩ := grow_pure (m := m) h9 (by rw [e4]; exact F) hf (by (first | lia | omega))
  exact ⟨σ1, σ', q1, q2, ⟨t', q3, q4.trans e4⟩⟩
theorem Tr.single {σ : St} {y : It} (hy : σ.nd y.a = some ⟨y.d, y.own, y.pl, none, none, none⟩) : Tr (σ.withRoot (some y.a)) [y] := by
  refine ⟨.node .leaf y .leaf, ⟨rfl, ⟨?_, trivial, trivial⟩, by simp [plug, T.io]⟩, rfl⟩
  have e : σ.nd y.a = some ⟨y.d, T.leaf.tot + y.own + T.leaf.tot, y.pl, T.leaf.root, T.leaf.root, par []⟩ := by simpa [T.tot, T.root, par] using hy
  exact e
end TP4

section B

section TQ0
open PySem PySem.W PyProof.Rows PySem.Calls PySem.Spec
set_option maxRecDepth 100000
set_option maxHeartbeats 2000000

section
variable {prog : Program} {w : World} {news : Led}
noncomputable def pvEq (x y : PV) : Bool := decide (x = y)
theorem lnj18 : True := by
  (k_with "mine all" => (first | with_reducible assumption | exact lt_ne (by with_reducible assumption)))
  (k_with "mine mem" => (first | exact List.mem_cons_self | with_reducible assumption | exact List.mem_append_left _ (by with_reducible assumption) | exact List.mem_append_right _ (by with_reducible assumption) | (refine' List.mem_cons_of_mem _ ?_; k_mem)))
  (k_with "subscriptTail#" => ((k_here; (with_reducible show wpAny _ _ (subscriptTail _ _ (Value.ref _) (Value.int _ _)) _ _ _); k_dflt (first | (refine' my_titem ?N_q ?m_q ?h0_q ?h1_q ?j_q ?x_q ?_ (by with_unfolding_all rfl); (case N_q => k_asm); (case m_q => k_mem); (case h0_q => first | decide | (first | lia | omega)); (case h1_q => first | decide | (first | lia | omega)); (case j_q => first | exact rfl | with_reducible assumption); (case x_q => first | exact rfl | with_reducible assumption); k_whole) | (refine' my_item ?N_q ?m_q ?h0_q ?h1_q ?x_q ?_ (by with_unfolding_all rfl); (case N_q => k_asm); (case m_q => k_mem); (case h0_q => first | decide | (first | lia | omega)); (case h1_q => first | decide | (first | lia | omega)); (case x_q => first | exact rfl | with_reducible assumption); k_whole)))))
  (k_with "compareOp Eq ref ref#" => ((k_here; (with_reducible show wpAny _ _ (compareOp CmpOp.Eq (Value.ref _) (Value.ref _)) _ _ _); k_dflt (refine' eq_pv ?N_q ?x_q ?y_q ?u_q ?_; (case N_q => k_asm); (case x_q => with_reducible assumption); (case y_q => with_reducible assumption); (case u_q => ktr_units); (try (simp only [PV.data, PyData.eqv, PyData.eqvAll]))))))
  (k_with "setItem ref int#" => ((k_here; (with_reducible show wpAny _ _ (setItem (Value.ref _) (Value.int _ _) _) _ _ _); k_dflt (refine' my_set ?F_q ?N_q ?U_q ?h0_q ?h1_q ?h2_q ?_; (case F_q => k_asm); (case N_q => k_asm); (case U_q => k_upd); (case h0_q => first | decide | (first | lia | omega)); (case h1_q => first | decide | (first | lia | omega) | (simp; done)); (case h2_q => first | decide | (first | lia | omega)); intro h9 F9 N9; (try simp only [show ((1 : Int).toNat) = 1 from rfl, List.set_cons_succ, List.set_cons_zero] at N9); (try k_sweep)))))
  (k_with "mine cutD" => (first | exact CutD.head | (apply CutD.tail; k_extra "mine cutD")))
  (k_with "mine news" => (first | k_asm | ((with_reducible rename News _ _ _ _ => kN9); refine News.deck kN9 (by k_mem) ?_; k_extra "mine subset")))
  (k_with "mine subset" => (first | k_extra "mine sub" | (intro p9 hp9; revert hp9; (try simp only [List.nil_append, List.append_assoc, List.cons_append, List.mem_cons, List.mem_append]); grind only)))
  (k_with "mine restX" => (first | exact RestX.base | (apply RestX.cons; k_extra "mine restX")))
  (k_with "mine cutX" => (first | (apply CutX.head; k_extra "mine restX") | (apply CutX.tail; k_extra "mine cutX")))
  (k_with "mine newer" => (repeat (first | exact Newer.nil | refine Newer.cons ⟨by grind only, by grind only⟩ ?_)))
  (k_with "mine memx" => (first | exact List.mem_cons_self | (refine List.mem_cons_of_mem _ ?_; k_extra "mine memx")))
  (k_with "mine items" => (first | exact PlItems.nil | (refine' PlItems.mk' ?mm9_q ?pp9_q ?rr9_q; (case mm9_q => k_extra "mine memx"); (case pp9_q => first | exact PVal.any (by with_reducible assumption) | (refine' PVal.sy ?ss9_q; (case ss9_q => k_extra "mine memx"))); (case rr9_q => k_extra "mine items"))))
  (k_with "exec For#" => ((k_here; (rename Fr _ _ _ _ => lF'); (with_unfolding_all refine' for_stop lF' ?_ (by intro _; rfl) (by passes_own); k_whole))))
  (k_with "exec For Name Name cons nil#" => ((k_here; (rename Fr _ _ _ _ => lF'); (with_unfolding_all refine' for_stop lF' ?_ (by intro _; rfl) (by passes_own); k_whole))))
  (k_with "exec For Name Call cons nil#" => ((k_here; (rename Fr _ _ _ _ => lF'); (with_unfolding_all refine' for_stop lF' ?_ (by intro _; rfl) (by passes_own); k_whole))))
  (k_with "exec For Tuple Name cons nil#" => ((k_here; (rename Fr _ _ _ _ => lF'); (with_unfolding_all refine' for_stop lF' ?_ (by intro _; rfl) (by passes_own); k_whole))))
  (k_with "exec For Tuple Call cons nil#" => ((k_here; (rename Fr _ _ _ _ => lF'); (with_unfolding_all refine' for_stop lF' ?_ (by intro _; rfl) (by passes_own); k_whole))))
  (k_with "ForPost#" => ((first | refine forPost_ret ?_ | refine forPost_brk ?_ | refine forPost_next ?_)))
  (k_with "mine pl" => (first | with_reducible assumption | exact IsPl.mono (by with_reducible assumption) (by k_extra "mine sub")))
  (k_with "mine pv" => (first | with_reducible assumption | exact PVal.any (by with_reducible assumption) | exact PVal.mono (by with_reducible assumption) (by k_extra "mine sub")))
  (k_with "call builtin:isinstance#" => ((k_here; (with_reducible show wpAny _ _ (call (Value.builtin "isinstance") [_, Value.type "bool"]) _ _ _); k_dflt (refine' isi_bool ?N_q ?v_q ?_; (case N_q => k_asm); (case v_q => k_extra "mine pv"); intro t9))))
  trivial
theorem eqv_pvEq {x y : PV} (hs : x.isSym = y.isSym) (hx : x.isT = false) (hy : y.isT = false) : PyData.eqv x.data y.data = pvEq x y := by
  cases x with
  | int i => cases y with
    | int j => by_cases h : i = j <;> simp [h, pvEq, PV.data, PyData.eqv]
    | true => cases hy
    | _ => first | rfl | cases hs
  | true => cases hx
  | _ => cases y <;> first | rfl | cases hs | cases hy
theorem lnj19 : True := by
  (k_with "compareOp Eq#" => ((fail_if_success k_extra "off j8"); (k_here; k_dflt (refine' eq_pv ?N_q ?x_q ?y_q ?u_q ?_; (case N_q => k_asm); (case x_q => with_reducible assumption); (case y_q => with_reducible assumption); (case u_q => ktr_units)))))
  (k_with "ite#" => ((fail_if_success k_extra "off j8"); (first | refine ite_pos (by with_reducible assumption) ?_ | refine ite_neg (by with_reducible assumption) ?_ | refine ite_neg (ne_tr (by with_reducible assumption)) ?_ | refine ite_pos (by decide) ?_ | refine ite_neg (by decide) ?_ | refine ite_stop ?_)))
  trivial
theorem eq_ok {v u : Value} {x y : PV} (hx : PVal news v x) (hy : PVal news u y) (hs : x.isSym = y.isSym) : FnR prog w 12 231 [v, u] news (fun r => r = .bool (pvEq x y)) := by
  (first | with_reducible refine FnR.intro ?_ | with_reducible refine FnX.intro ?_ | with_reducible refine FnM.intro ?_ | with_reducible refine @Mine.FnS.intro _ _ _ _ _ _ _ _ _ _ ?_)
  intro p loose mean mg mb dp un gd cn cs a9 ccd cl outer A₀ base h₀ L m hp gn dr tk0 os Q E B X T hk F N hd hu hret
  refine enter [(Str.ofString "one", v), (Str.ofString "other", u)] B F X N T rfl rfl hk (by k_is) (by k_is) (by ((conv => lhs; whnf); all_goals exact rfl)) (by ((conv => lhs; whnf); all_goals exact rfl)) (by ktr_room) (BindsTo.of_eq rfl) (locs rfl) ?_ rfl rfl rfl (by decide)
  intro g' L' h' FG' F' N' B' X' T'
  (try dsimp only)
  (try k_fold)
  refine fold_A ?_
  intro en9 ak9 hAu9
  have S9 : Site w ak9 (dp + 1) (un + 3) g' L' := Site.mk B' X' T' rfl
  k_extra "mine steps"
  cases hxT : x.isT with
  | true =>
    refine stop_is rfl ?_
    k_extra "mine steps"
    cases hyT : y.isT with
    | true =>
      refine stop_is rfl ?_
      k_extra "mine steps"
      first | exact hret _ _ _ (by k_asm) (by k_extra "mine drop") (congrArg Value.bool (by cases x <;> cases y <;> first | rfl | (cases hxT; done) | (cases hyT; done))) | w_report
    | false =>
      refine stop_not rfl ?_
      k_extra "mine steps"
      first | exact hret _ _ _ (by k_asm) (by k_extra "mine drop") (congrArg Value.bool (by cases x <;> cases y <;> first | rfl | (cases hxT; done) | (cases hyT; done))) | w_report
  | false =>
    refine stop_not rfl ?_
    k_extra "mine steps"
    cases hyT : y.isT with
    | true =>
      refine stop_is rfl ?_
      k_extra "mine steps"
      first | exact hret _ _ _ (by k_asm) (by k_extra "mine drop") (congrArg Value.bool (by cases x <;> cases y <;> first | rfl | (cases hxT; done) | (cases hyT; done))) | w_report
    | false =>
      refine stop_not rfl ?_
      k_extra "mine steps"
      first | exact hret _ _ _ (by k_asm) (by k_extra "mine drop") (congrArg Value.bool (eqv_pvEq hs hxT hyT)) | w_report
end
end TQ0

section TQ1
open PySem PySem.W PyProof.Rows PySem.Calls PySem.Spec
set_option maxRecDepth 100000
set_option maxHeartbeats 2000000

section
variable {prog : Program} {w : World} {news : Led}
noncomputable def plFind : List (Int × PV) → Int → Int → Int
  | [], _, _ => -1
  | (j, _) :: r, k, i => if j = k then i else plFind r k (i + 1)
inductive PfJ (l : List (Int × PV)) (pl : Addr) (k : Int) (t : Tok) (news : Led) (i : Nat) (m : Str → Option Value) (nx : Led) : Prop
  | mk (hx : news = nx) (hm1 : m (Str.ofString "plist") = some (.ref pl)) (hm2 : m (Str.ofString "number") = some (.int k t)) (hJ : plFind l k 0 = plFind (l.drop i) k i)
section
theorem lnj20 : True := by
  (k_with "off j8" => skip)
  (k_with "ite#" => ((fail_if_success k_extra "off j9"); (first | refine ite_pos (by with_reducible assumption) ?_ | refine ite_neg (by with_reducible assumption) ?_ | refine ite_neg (ne_tr (by with_reducible assumption)) ?_ | refine ite_pos (by decide) ?_ | refine ite_neg (by decide) ?_ | refine ite_stop ?_)))
  trivial
theorem plist_find_ok {pl : Addr} {l : List (Int × PV)} {k : Int} {t : Tok} (hp : IsPl news pl l) (hz : l.length ≤ 4000000) : FnR prog w 1 238 [.ref pl, .int k t] news (fun r => ∃ t, r = .int (plFind l k 0) t) := by
  obtain ⟨vs, n, hm, hi⟩ := hp
  have hlen : vs.length = l.length := hi.length
  (first | with_reducible refine FnR.intro ?_ | with_reducible refine FnX.intro ?_ | with_reducible refine FnM.intro ?_ | with_reducible refine @Mine.FnS.intro _ _ _ _ _ _ _ _ _ _ ?_)
  intro p loose mean mg mb dp un gd cn cs a9 ccd cl outer A₀ base h₀ L m hp gn dr tk0 os Q E B X T hk F N hd hu hret
  refine enter [(Str.ofString "plist", .ref pl), (Str.ofString "number", .int k t)] B F X N T rfl rfl hk (by k_is) (by k_is) (by ((conv => lhs; whnf); all_goals exact rfl)) (by ((conv => lhs; whnf); all_goals exact rfl)) (by ktr_room) (BindsTo.of_eq rfl) (locs rfl) ?_ rfl rfl rfl (by decide)
  intro g' L' h' FG' F' N' B' X' T'
  (try dsimp only)
  (try k_fold)
  refine fold_A ?_
  intro en9 ak9 hAu9
  have S9 : Site w ak9 (dp + 1) (un + 3) g' L' := Site.mk B' X' T' rfl
  k_extra "mine steps"
  rename_i R9 F9 N9 _
  refine for_range (n := l.length) (PfJ l pl k t news) rfl R9 (by (first | lia | omega)) (by (first | lia | omega)) (by (first | lia | omega)) F9 N9 ⟨rfl, rfl, rfl, by simp⟩ ?_ ?_ (by rfl)
  · clear F9 N9
    rintro I o i kk t1 m₁ nx h1 tk1 G9 g9 hI hne hi9 hkk ⟨rfl, hm1, hm2, hJ⟩ F' N'
    obtain ⟨⟨j, x⟩, hx⟩ : ∃ p, l[i]? = some p := ⟨_, List.getElem?_eq_getElem hi9⟩
    obtain ⟨q, tj, v, hq, hqm, hqv⟩ := PlItems.at ‹PlItems news vs l› hx
    have hd : l.drop i = (j, x) :: l.drop (i + 1) := by rw [List.drop_eq_getElem_cons hi9]; congr 1; rw [List.getElem?_eq_getElem hi9] at hx; exact Option.some.inj hx
    rw [hd] at hJ
    have hq2 : vs[kk.toNat]? = some (.ref q) := by rw [show kk.toNat = i by (first | lia | omega)]; exact hq
    simp only [plFind] at hJ
    refine g9 ?_
    intro P9
    k_extra "mine steps"
    by_cases hjk : j = k
    · refine stop_eq hjk ?_
      k_extra "mine steps"
      exact hret _ _ _ (by k_asm) (by k_extra "mine drop") ⟨t1, by rw [hJ, if_pos hjk, hkk, Int.zero_add]⟩
    · refine stop_ne hjk ?_
      k_extra "mine steps"
      exact ForEnd.intro (by k_asm) (by k_asm) (fun p hp => Nat.ne_of_lt (hI p hp)) ⟨rfl, by k_extra "mine look", by k_extra "mine look", by rw [hJ, if_neg hjk]; rfl⟩
  · rintro m₁ nx h1 tk1 ⟨rfl, hm1, hm2, hJ⟩ F' N'
    rw [List.drop_length] at hJ
    k_sweep
    k_extra "mine steps"
    exact hret _ _ _ (by k_asm) (by k_extra "mine drop") ⟨_, by rw [hJ]; rfl⟩
end
noncomputable def plGet : List (Int × PV) → Int → Option PV
  | [], _ => none
  | (j, x) :: r, k => if j = k then some x else plGet r k
theorem lnj21 : True := by
  (k_with "off j9" => skip)
  trivial
theorem plFind_get : ∀ (l : List (Int × PV)) (k i : Int), (plFind l k i = -1 ∧ plGet l k = none) ∨ ∃ (n : Nat) (x : PV), plFind l k i = i + n ∧ l[n]? = some (k, x) ∧ plGet l k = some x
  | [], _, _ => .inl ⟨rfl, rfl⟩
  | (j, x) :: r, k, i => by
    by_cases h : j = k
    · exact .inr ⟨0, x, by simp [plFind, h], by simp [h], by simp [plGet, h]⟩
    · rcases plFind_get r k (i + 1) with ⟨h1, h2⟩ | ⟨n, y, h1, h2, h3⟩
      · exact .inl ⟨by simp [plFind, h, h1], by simp [plGet, h, h2]⟩
      · exact .inr ⟨n + 1, y, by simp only [plFind, if_neg h, h1]; (first | lia | omega), by simpa using h2, by simp [plGet, h, h3]⟩
theorem lnj22 : True := by
  (k_with "call ref#" => ((fail_if_success k_extra "off j10"); (k_here; (with_reducible show wpAny _ _ (call (Value.ref 238) _ _) _ _ _); k_dflt ((first | (refine' FnR.useI (plist_find_ok  ?hp_q ?hz_q) ?S_q ?F_q ?N_q ?hd_q ?hu_q ?_; (case N_q => k_asm); (case hp_q => k_extra "mine pl"); (case hz_q => first | with_reducible assumption | (first | lia | omega)))); (case S_q => first | with_reducible assumption | exact Site.mk (by k_asm) (by k_asm) (by k_asm) (by first | exact rfl | with_reducible assumption)); (case F_q => k_asm); (case hd_q => first | exact room (by with_reducible assumption) rfl | ktr_room); (case hu_q => first | exact unitsL (by with_reducible assumption) rfl | ktr_units); intro h9 tk9 F9 N9 t9; (try k_sweep)))))
  trivial
theorem plist_get_none {pl : Addr} {l : List (Int × PV)} {k : Int} {t : Tok} (hp : IsPl news pl l) (hz : l.length ≤ 4000000) (hg : plGet l k = none) : FnR prog w 2 245 [.ref pl, .int k t] news (fun r => r = .none) := by
  rcases plFind_get l k 0 with ⟨h1, _⟩ | ⟨n, x, _, _, h3⟩
  · (first | with_reducible refine FnR.intro ?_ | with_reducible refine FnX.intro ?_ | with_reducible refine FnM.intro ?_ | with_reducible refine @Mine.FnS.intro _ _ _ _ _ _ _ _ _ _ ?_)
    intro p loose mean mg mb dp un gd cn cs a9 ccd cl outer A₀ base h₀ L m hp gn dr tk0 os Q E B X T hk F N hd hu hret
    refine enter [(Str.ofString "plist", .ref pl), (Str.ofString "number", .int k t)] B F X N T rfl rfl hk (by k_is) (by k_is) (by ((conv => lhs; whnf); all_goals exact rfl)) (by ((conv => lhs; whnf); all_goals exact rfl)) (by ktr_room) (BindsTo.of_eq rfl) (locs rfl) ?_ rfl rfl rfl (by decide)
    intro g' L' h' FG' F' N' B' X' T'
    (try dsimp only)
    (try k_fold)
    refine fold_A ?_
    intro en9 ak9 hAu9
    have S9 : Site w ak9 (dp + 1) (un + 3) g' L' := Site.mk B' X' T' rfl
    k_extra "mine steps"
    first | exact hret _ _ _ (by k_asm) (by k_extra "mine drop") rfl | w_report
  · rw [hg] at h3
    cases h3
theorem FnX.useS {prog : Program} {w : World} {need : Nat} {f : Addr} {vs : List Value} {news : Led} {x : PV} (C : FnX prog w need f vs news (fun r news' => ∃ q v, r = .ref q ∧ PVal news v x ∧ news' = (q, tupObj [v]) :: news ∧ AllLt q news))
    {A : Around} {dp un : Nat} {h₀ : Heap} {L : Addr} {m : Str → Option Value} {hp : Heap} {gn : Array GenState} {dr : Drawn} {tk : Nat} {os : OsState} {Q E : Value → Shared → Prop} (S₀ : Site w A dp un h₀ L) (F : Fr h₀ L hp m) (N : News h₀ L hp news) (hd : dp + need < recursionLimit) (hu : un + 8 * need < cLine)
    (ret : ∀ q v h' tk', Fr h₀ L h' m → PVal news v x → News h₀ L h' ((q, tupObj [v]) :: news) → AllLt q news → Q (.ref q) ⟨h', gn, dr, tk', os⟩) : wpAny (model prog w) A (call (.ref f) vs) Q E ⟨hp, gn, dr, tk, os⟩ :=
  FnX.use C S₀ F N hd hu (fun r news' h' tk' F N po => by obtain ⟨q, v, rfl, hv, rfl, hl⟩ := po; exact ret q v h' tk' F hv N hl)
theorem plist_get_some {pl : Addr} {l : List (Int × PV)} {k : Int} {t : Tok} {x : PV} (hp : IsPl news pl l) (hz : l.length ≤ 4000000) (hg : plGet l k = some x) :
    FnX prog w 2 245 [.ref pl, .int k t] news (fun r news' => ∃ q v, r = .ref q ∧ PVal news v x ∧ news' = (q, tupObj [v]) :: news ∧ AllLt q news) := by
  rcases plFind_get l k 0 with ⟨_, h2⟩ | ⟨n, x', h1, h2, h3⟩
  · rw [hg] at h2
    cases h2
  · rw [hg] at h3
    cases h3
    have hp2 := hp
    obtain ⟨vs, nn, hm, hi⟩ := hp2
    obtain ⟨q, tj, v, hq, hqm, hqv⟩ := PlItems.at hi h2
    have hn : n < l.length := (List.getElem?_eq_some_iff.mp h2).1
    have h1' : plFind l k 0 = (n : Int) := by (first | lia | omega)
    have hq2 : vs[(plFind l k 0).toNat]? = some (.ref q) := by rw [h1', Int.toNat_natCast]; exact hq
    (first | with_reducible refine FnR.intro ?_ | with_reducible refine FnX.intro ?_ | with_reducible refine FnM.intro ?_ | with_reducible refine @Mine.FnS.intro _ _ _ _ _ _ _ _ _ _ ?_)
    intro p loose mean mg mb dp un gd cn cs a9 ccd cl outer A₀ base h₀ L m hp gn dr tk0 os Q E B X T hk F N hd hu hret
    refine enter [(Str.ofString "plist", .ref pl), (Str.ofString "number", .int k t)] B F X N T rfl rfl hk (by k_is) (by k_is) (by ((conv => lhs; whnf); all_goals exact rfl)) (by ((conv => lhs; whnf); all_goals exact rfl)) (by ktr_room) (BindsTo.of_eq rfl) (locs rfl) ?_ rfl rfl rfl (by decide)
    intro g' L' h' FG' F' N' B' X' T'
    (try dsimp only)
    (try k_fold)
    refine fold_A ?_
    intro en9 ak9 hAu9
    have S9 : Site w ak9 (dp + 1) (un + 3) g' L' := Site.mk B' X' T' rfl
    k_extra "mine steps"
    exact hret _ _ _ _ (by k_asm) (by k_asm) ⟨_, v, rfl, hqv, rfl, allLt_of (by with_reducible assumption)⟩
noncomputable def holdsP (l : List (Int × PV)) (k : Int) (y : PV) : Bool := match plGet l k with
  | none => false
  | some x => pvEq x y
theorem lnj23 : True := by
  (k_with "call ref#" => ((fail_if_success k_extra "off j10"); (k_here; (with_reducible show wpAny _ _ (call (Value.ref 231) _ _) _ _ _); k_dflt ((first | (refine' FnR.useV (eq_ok  ?hx_q ?hy_q ?hs_q) ?S_q ?F_q ?N_q ?hd_q ?hu_q ?_; (case N_q => k_asm); (case hx_q => k_extra "mine pv"); (case hy_q => k_extra "mine pv"); (case hs_q => with_reducible assumption))); (case S_q => first | with_reducible assumption | exact Site.mk (by k_asm) (by k_asm) (by k_asm) (by first | exact rfl | with_reducible assumption)); (case F_q => k_asm); (case hd_q => first | exact room (by with_reducible assumption) rfl | ktr_room); (case hu_q => first | exact unitsL (by with_reducible assumption) rfl | ktr_units); intro h9 tk9 F9 N9; (try k_sweep)))))
  trivial
theorem holds_pair_ok {pl : Addr} {l : List (Int × PV)} {k : Int} {t : Tok} {v : Value} {y : PV} (hp : IsPl news pl l) (hz : l.length ≤ 4000000) (hy : PVal news v y) (hs : ∀ x, plGet l k = some x → x.isSym = y.isSym) :
    FnR prog w 13 252 [.ref pl, .int k t, v] news (fun r => r = .bool (holdsP l k y)) := by
  rcases plFind_get l k 0 with ⟨h1, h2⟩ | ⟨n, x, h1, h2, h3⟩
  · have e : holdsP l k y = false := by simp [holdsP, h2]
    rw [e]
    (first | with_reducible refine FnR.intro ?_ | with_reducible refine FnX.intro ?_ | with_reducible refine FnM.intro ?_ | with_reducible refine @Mine.FnS.intro _ _ _ _ _ _ _ _ _ _ ?_)
    intro p loose mean mg mb dp un gd cn cs a9 ccd cl outer A₀ base h₀ L m hp gn dr tk0 os Q E B X T hk F N hd hu hret
    refine enter [(Str.ofString "plist", .ref pl), (Str.ofString "number", .int k t), (Str.ofString "value", v)] B F X N T rfl rfl hk (by k_is) (by k_is) (by ((conv => lhs; whnf); all_goals exact rfl)) (by ((conv => lhs; whnf); all_goals exact rfl)) (by ktr_room) (BindsTo.of_eq rfl) (locs rfl) ?_ rfl rfl rfl (by decide)
    intro g' L' h' FG' F' N' B' X' T'
    (try dsimp only)
    (try k_fold)
    refine fold_A ?_
    intro en9 ak9 hAu9
    have S9 : Site w ak9 (dp + 1) (un + 3) g' L' := Site.mk B' X' T' rfl
    k_extra "mine steps"
    first | exact hret _ _ _ (by k_asm) (by k_extra "mine drop") (by rw [h1]; rfl) | w_report
  · have e : holdsP l k y = pvEq x y := by simp [holdsP, h3]
    have hs2 := hs x h3
    rw [e]
    have hp2 := hp
    obtain ⟨vs, nn, hm, hi⟩ := hp2
    obtain ⟨q, tj, u, hq, hqm, hqv⟩ := PlItems.at hi h2
    have hn : n < l.length := (List.getElem?_eq_some_iff.mp h2).1
    have h1' : plFind l k 0 = (n : Int) := by (first | lia | omega)
    have hq2 : vs[(plFind l k 0).toNat]? = some (.ref q) := by rw [h1', Int.toNat_natCast]; exact hq
    (first | with_reducible refine FnR.intro ?_ | with_reducible refine FnX.intro ?_ | with_reducible refine FnM.intro ?_ | with_reducible refine @Mine.FnS.intro _ _ _ _ _ _ _ _ _ _ ?_)
    intro p loose mean mg mb dp un gd cn cs a9 ccd cl outer A₀ base h₀ L m hp gn dr tk0 os Q E B X T hk F N hd hu hret
    refine enter [(Str.ofString "plist", .ref pl), (Str.ofString "number", .int k t), (Str.ofString "value", v)] B F X N T rfl rfl hk (by k_is) (by k_is) (by ((conv => lhs; whnf); all_goals exact rfl)) (by ((conv => lhs; whnf); all_goals exact rfl)) (by ktr_room) (BindsTo.of_eq rfl) (locs rfl) ?_ rfl rfl rfl (by decide)
    intro g' L' h' FG' F' N' B' X' T'
    (try dsimp only)
    (try k_fold)
    refine fold_A ?_
    intro en9 ak9 hAu9
    have S9 : Site w ak9 (dp + 1) (un + 3) g' L' := Site.mk B' X' T' rfl
    k_extra "mine steps"
    first | exact hret _ _ _ (by k_asm) (by k_extra "mine drop") rfl | w_report
noncomputable def samePl (a b : List (Int × PV)) : Bool := decide (a.length = b.length) && a.all fun p => holdsP b p.1 p.2
/-- a sign of a category stands under 100, and there alone -/
noncomputable def WfPl (l : List (Int × PV)) : Prop := ∀ p ∈ l, p.2.isSym = decide (p.1 = 100)
/-- the numbers rise -/
noncomputable def Canon (l : List (Int × PV)) : Prop := l.Pairwise fun p q => p.1 < q.1
theorem WfPl.nil : WfPl [] := fun _ h => nomatch h
theorem WfPl.cons {k : Int} {y : PV} {l : List (Int × PV)} (h : y.isSym = decide (k = 100)) (w : WfPl l) : WfPl ((k, y) :: l) := by
  intro p hp
  rcases List.mem_cons.mp hp with rfl | hp
  · exact h
  · exact w p hp
theorem WfPl.get {l : List (Int × PV)} {k : Int} {x : PV} (w : WfPl l) (h : plGet l k = some x) : x.isSym = decide (k = 100) := by
  induction l with
  | nil => cases h
  | cons p l ih =>
    obtain ⟨j, y⟩ := p
    simp only [plGet] at h
    split at h
    · rename_i e
      cases h
      have := w (j, x) (by simp)
      rw [← e]
      exact this
    · exact ih (fun p hp => w p (List.mem_cons_of_mem _ hp)) h
inductive SpJ (a b : List (Int × PV)) (pb : Addr) (news : Led) (r : List Value) (m : Str → Option Value) (nx : Led) : Prop
  | mk (ra : List (Int × PV)) (hx : news = nx) (hm1 : m (Str.ofString "other") = some (.ref pb)) (hra : PlItems news r ra) (hsub : ∀ p ∈ ra, p ∈ a) (hJ : samePl a b = ra.all fun p => holdsP b p.1 p.2)
section
theorem lnj24 : True := by
  (k_with "call ref#" => ((fail_if_success k_extra "off j10"); (k_here; (with_reducible show wpAny _ _ (call (Value.ref 252) _ _) _ _ _); k_dflt ((first | (refine' FnR.useV (holds_pair_ok  ?hp_q ?hz_q ?hy_q ?hs_q) ?S_q ?F_q ?N_q ?hd_q ?hu_q ?_; (case N_q => k_asm); (case hp_q => k_extra "mine pl"); (case hz_q => first | with_reducible assumption | (first | lia | omega)); (case hy_q => k_extra "mine pv"); (case hs_q => with_reducible assumption))); (case S_q => first | with_reducible assumption | exact Site.mk (by k_asm) (by k_asm) (by k_asm) (by first | exact rfl | with_reducible assumption)); (case F_q => k_asm); (case hd_q => first | exact room (by with_reducible assumption) rfl | ktr_room); (case hu_q => first | exact unitsL (by with_reducible assumption) rfl | ktr_units); intro h9 tk9 F9 N9; (try k_sweep)))))
  (k_with "ite#" => ((fail_if_success k_extra "off j11"); (first | refine ite_pos (by with_reducible assumption) ?_ | refine ite_neg (by with_reducible assumption) ?_ | refine ite_neg (ne_tr (by with_reducible assumption)) ?_ | refine ite_pos (by decide) ?_ | refine ite_neg (by decide) ?_ | refine ite_stop ?_)))
  trivial
theorem same_plist_ok {pa pb : Addr} {a b : List (Int × PV)} (ha : IsPl news pa a) (hb : IsPl news pb b) (hza : a.length ≤ 4000000) (hzb : b.length ≤ 4000000) (wa : WfPl a) (wb : WfPl b) : FnR prog w 15 259 [.ref pa, .ref pb] news (fun r => r = .bool (samePl a b)) := by
  have ha2 := ha
  have hb2 := hb
  obtain ⟨va, na, hma, hia⟩ := ha2
  obtain ⟨vb, nb, hmb, hib⟩ := hb2
  have hla : va.length = a.length := hia.length
  have hlb : vb.length = b.length := hib.length
  (first | with_reducible refine FnR.intro ?_ | with_reducible refine FnX.intro ?_ | with_reducible refine FnM.intro ?_ | with_reducible refine @Mine.FnS.intro _ _ _ _ _ _ _ _ _ _ ?_)
  intro p loose mean mg mb dp un gd cn cs a9 ccd cl outer A₀ base h₀ L m hp gn dr tk0 os Q E B X T hk F N hd hu hret
  refine enter [(Str.ofString "one", .ref pa), (Str.ofString "other", .ref pb)] B F X N T rfl rfl hk (by k_is) (by k_is) (by ((conv => lhs; whnf); all_goals exact rfl)) (by ((conv => lhs; whnf); all_goals exact rfl)) (by ktr_room) (BindsTo.of_eq rfl) (locs rfl) ?_ rfl rfl rfl (by decide)
  intro g' L' h' FG' F' N' B' X' T'
  (try dsimp only)
  (try k_fold)
  refine fold_A ?_
  intro en9 ak9 hAu9
  have S9 : Site w ak9 (dp + 1) (un + 3) g' L' := Site.mk B' X' T' rfl
  k_extra "mine steps"
  by_cases hl : a.length = b.length
  · refine stop_neg (by simp; (first | lia | omega)) ?_
    k_extra "mine steps"
    refine for_list (SpJ a b pb news) rfl (by k_asm) (by k_asm) hma rfl rfl ⟨a, rfl, rfl, hia, fun _ h => h, by simp [samePl, hl]⟩ ?_ ?_ (by rfl)
    · rintro I o v r m₁ nx h1 tk1 G9 g9 hI hne ⟨ra, rfl, hm1, hra, hsub, hJ⟩ hx F' N'
      cases hra with
      | cons q kk tk v x hqm hv hr =>
        rename_i ra
        have hs9 : ∀ y, plGet b kk = some y → y.isSym = x.isSym := fun y hy => (wb.get hy).trans (wa (kk, x) (hsub _ (by simp))).symm
        have hqm2 : (q, tupObj [Value.int kk tk, v]) ∈ (I, o) :: news := List.mem_cons_of_mem _ hqm
        rw [List.all_cons] at hJ
        dsimp only at hJ
        refine g9 ?_
        intro P9
        k_extra "mine steps"
        cases hh : holdsP b kk x with
        | true =>
          refine stop_neg (by decide) ?_
          k_extra "mine steps"
          exact ForEnd.intro (by k_asm) (by k_asm) (fun p hp => Nat.ne_of_lt (hI p hp)) ⟨hx, ra, rfl, by k_extra "mine look", hr, fun p hp => hsub p (List.mem_cons_of_mem _ hp), by rw [hJ, hh]; rfl⟩
        | false =>
          refine stop_pos (by decide) ?_
          k_extra "mine steps"
          exact hret _ _ _ (by k_asm) (by k_extra "mine drop") (by rw [hJ, hh]; rfl)
    · rintro m₁ nx h1 tk1 ⟨ra, rfl, hm1, hra, hsub, hJ⟩ F' N'
      cases hra
      k_sweep
      k_extra "mine steps"
      exact hret _ _ _ (by k_asm) (by k_extra "mine drop") (by rw [hJ]; rfl)
  · refine stop_pos (by simp; (first | lia | omega)) ?_
    k_extra "mine steps"
    first | exact hret _ _ _ (by k_asm) (by k_extra "mine drop") (by rw [show samePl a b = false by simp [samePl, hl]]) | w_report
end
end
end TQ1

section TR1
open PySem PySem.W PyProof.Rows PySem.Calls PySem.Spec
set_option maxRecDepth 100000
set_option maxHeartbeats 2000000

noncomputable abbrev deckO (dl : Addr) (c : Int) (t : Tok) (n : Nat) : Obj := listOf #[.ref dl, .int c t] n
/-- the list of the script's ints -/
noncomputable def IsInts (R : Led) (dl : Addr) : Prop := ∃ vs n ns, (dl, listOf vs.toArray n) ∈ R ∧ IntsAre vs ns ∧ ns.length ≤ 63
/-- what a call of a def that draws gives: the deck's counter has risen by k at most; x is what it has made -/
noncomputable def FnD (prog : Program) (w : World) (need : Nat) (f : Addr) (vs : List Value) (D dl : Addr) (R : Led) (c : Int) (k : Int) (Post : Value → Led → Prop) : Prop :=
  ∀ (A : Around) (dp un : Nat) (h₀ : Heap) (L : Addr) (m : Str → Option Value) (hp : Heap) (gn : Array GenState) (dr : Drawn) (tk : Nat) (os : OsState)
    (Q E : Value → Shared → Prop) (t : Tok) (n : Nat),
    Site w A dp un h₀ L → Fr h₀ L hp m → News h₀ L hp ((D, deckO dl c t n) :: R) → dp + need < recursionLimit → un + 8 * need < cLine →
    (∀ r c' t' n' x h' tk', Fr h₀ L h' m → c ≤ c' → c' ≤ c + k → News h₀ L h' ((D, deckO dl c' t' n') :: (x ++ R)) → Newer x ((D, deckO dl c t n) :: R) → Post r x → Q r ⟨h', gn, dr, tk', os⟩) →
    wpAny (model prog w) A (call (.ref f) vs) Q E ⟨hp, gn, dr, tk, os⟩
theorem lnj25 : True := by
  (k_with "off j11" => skip)
  (k_with "off j10" => skip)
  trivial
theorem FnD.use {prog : Program} {w : World} {need : Nat} {f : Addr} {vs : List Value} {D dl : Addr} {R : Led} {c k : Int} {Post : Value → Led → Prop} (C : FnD prog w need f vs D dl R c k Post)
    {A : Around} {dp un : Nat} {h₀ : Heap} {L : Addr} {m : Str → Option Value} {hp : Heap} {gn : Array GenState} {dr : Drawn} {tk : Nat} {os : OsState}
    {Q E : Value → Shared → Prop} {t : Tok} {n : Nat} (S₀ : Site w A dp un h₀ L) (F : Fr h₀ L hp m) (N : News h₀ L hp ((D, deckO dl c t n) :: R)) (hd : dp + need < recursionLimit) (hu : un + 8 * need < cLine)
    (ret : ∀ r c' t' n' x h' tk', Fr h₀ L h' m → c ≤ c' → c' ≤ c + k → News h₀ L h' ((D, deckO dl c' t' n') :: (x ++ R)) → Newer x ((D, deckO dl c t n) :: R) → Post r x → Q r ⟨h', gn, dr, tk', os⟩) :
    wpAny (model prog w) A (call (.ref f) vs) Q E ⟨hp, gn, dr, tk, os⟩ := C _ _ _ _ _ _ _ _ _ _ _ _ _ _ _ S₀ F N hd hu ret
theorem FnD.intro {prog : Program} {w : World} {need : Nat} {f : Addr} {vs : List Value} {D dl : Addr} {R : Led} {c k : Int} {Post : Value → Led → Prop}
    (C : ∀ (p : Program) (loose : List Str) (mean : ExcName → Option Value) (mg mb : Str → Option Value) (dp un : Nat) (gd : Option (List Code)) (cn : Str) (cs : Scope) (a : Addr) (ccd : Value) (cl : List (Str × Addr)) (outer : List Env) (A₀ : Around) (base h₀ : Heap) (L : Addr) (m : Str → Option Value) (hp : Heap) (gn : Array GenState) (dr : Drawn) (tk : Nat) (os : OsState)
      (Q E : Value → Shared → Prop) (t : Tok) (n : Nat), Below A₀ base outer h₀ → (Mine.K0 w.params).In h₀ → Top p loose mean mg mb h₀ → cs.kind = .function → Fr h₀ L hp m → News h₀ L hp ((D, deckO dl c t n) :: R) → dp + need < recursionLimit → un + 8 * need < cLine →
      (∀ r c' t' n' x h' tk', Fr h₀ L h' m → c ≤ c' → c' ≤ c + k → News h₀ L h' ((D, deckO dl c' t' n') :: (x ++ R)) → Newer x ((D, deckO dl c t n) :: R) → Post r x → Q r ⟨h', gn, dr, tk', os⟩) → wpAny (model prog w) (ktrTop dp un gd cn cs L a ccd cl outer) (call (.ref f) vs) Q E ⟨hp, gn, dr, tk, os⟩) : FnD prog w need f vs D dl R c k Post := by
  intro A dp un h₀ L m hp gn dr tk os Q E t n S F N hd hu ret
  cases S with
  | mk B X T hk => exact C _ _ _ _ _ _ _ _ _ _ _ _ _ _ _ _ _ _ _ _ _ _ _ _ _ _ _ _ B X T hk F N hd hu ret
theorem FnD.useI {prog : Program} {w : World} {need : Nat} {f : Addr} {vs : List Value} {D dl : Addr} {R : Led} {c k : Int} {many : Int} (C : FnD prog w need f vs D dl R c k (fun r x => x = [] ∧ ∃ v t, r = .int v t ∧ 0 ≤ v ∧ v < many))
    {A : Around} {dp un : Nat} {h₀ : Heap} {L : Addr} {m : Str → Option Value} {hp : Heap} {gn : Array GenState} {dr : Drawn} {tk : Nat} {os : OsState} {Q E : Value → Shared → Prop} {t : Tok} {n : Nat} (S₀ : Site w A dp un h₀ L) (F : Fr h₀ L hp m) (N : News h₀ L hp ((D, deckO dl c t n) :: R)) (hd : dp + need < recursionLimit) (hu : un + 8 * need < cLine)
    (ret : ∀ c' t' n' h' tk' v tv, Fr h₀ L h' m → c ≤ c' → c' ≤ c + k → News h₀ L h' ((D, deckO dl c' t' n') :: R) → 0 ≤ v → v < many → Q (.int v tv) ⟨h', gn, dr, tk', os⟩) : wpAny (model prog w) A (call (.ref f) vs) Q E ⟨hp, gn, dr, tk, os⟩ :=
  FnD.use C S₀ F N hd hu (fun r c' t' n' x h' tk' F lo hi N _ po => by obtain ⟨rfl, v, tv, rfl, h1, h2⟩ := po; exact ret c' t' n' h' tk' v tv F lo hi N h1 h2)
theorem FnD.useP {prog : Program} {w : World} {need : Nat} {f : Addr} {vs : List Value} {D dl : Addr} {R : Led} {c k : Int} (C : FnD prog w need f vs D dl R c k (fun r x => x = [] ∧ ∃ y, PVal [] r y ∧ y.isSym = false))
    {A : Around} {dp un : Nat} {h₀ : Heap} {L : Addr} {m : Str → Option Value} {hp : Heap} {gn : Array GenState} {dr : Drawn} {tk : Nat} {os : OsState} {Q E : Value → Shared → Prop} {t : Tok} {n : Nat} (S₀ : Site w A dp un h₀ L) (F : Fr h₀ L hp m) (N : News h₀ L hp ((D, deckO dl c t n) :: R)) (hd : dp + need < recursionLimit) (hu : un + 8 * need < cLine)
    (ret : ∀ r c' t' n' h' tk' y, Fr h₀ L h' m → c ≤ c' → c' ≤ c + k → News h₀ L h' ((D, deckO dl c' t' n') :: R) → PVal [] r y → y.isSym = false → Q r ⟨h', gn, dr, tk', os⟩) : wpAny (model prog w) A (call (.ref f) vs) Q E ⟨hp, gn, dr, tk, os⟩ :=
  FnD.use C S₀ F N hd hu (fun r c' t' n' x h' tk' F lo hi N _ po => by obtain ⟨rfl, y, h1, h2⟩ := po; exact ret r c' t' n' h' tk' y F lo hi N h1 h2)
theorem FnD.fin {D dl : Addr} {R : Led} {c k : Int} {Post : Value → Led → Prop} {h₀ : Heap} {L : Addr} {m : Str → Option Value} {gn : Array GenState} {dr : Drawn} {os : OsState} {Q : Value → Shared → Prop} {t : Tok} {n : Nat}
    (ret : ∀ r c' t' n' x h' tk', Fr h₀ L h' m → c ≤ c' → c' ≤ c + k → News h₀ L h' ((D, deckO dl c' t' n') :: (x ++ R)) → Newer x ((D, deckO dl c t n) :: R) → Post r x → Q r ⟨h', gn, dr, tk', os⟩)
    {r : Value} {c' : Int} {t' : Tok} {n' : Nat} {x : Led} {h' : Heap} {tk' : Nat} (F : Fr h₀ L h' m) (N : News h₀ L h' ((D, deckO dl c' t' n') :: (x ++ R))) (lo : c ≤ c') (hi : c' ≤ c + k) (nw : Newer x ((D, deckO dl c t n) :: R)) (po : Post r x) : Q r ⟨h', gn, dr, tk', os⟩ :=
  ret _ _ _ _ _ _ _ F lo hi N nw po
section
variable {prog : Program} {w : World} {R : Led} {D dl : Addr} {c : Int}
theorem law_draw_ok {many : Int} {t : Tok} (hi : IsInts R dl) (hD : ∀ p ∈ R, p.1 ≠ D) (hc : 0 ≤ c) (hc2 : c ≤ 5000) (hm : 0 < many) (hm2 : many ≤ 1000) : FnD prog w 1 498 [.ref D, .int many t] D dl R c 1 (fun r x => x = [] ∧ ∃ v t, r = .int v t ∧ 0 ≤ v ∧ v < many) := by
  obtain ⟨vs, ni, ns, hv, hI, hn⟩ := hi
  refine FnD.intro ?_
  intro p loose mean mg mb dp un gd cn cs a9 ccd cl outer A₀ base h₀ L m hp gn dr tk0 os Q E t9 n9 B X T hk F N hd hu hret
  have hl : vs.length = ns.length := hI.length
  refine enter [(Str.ofString "deck", .ref D), (Str.ofString "many", .int many t)] B F X N T rfl rfl hk (by k_is) (by k_is) (by ((conv => lhs; whnf); all_goals exact rfl)) (by ((conv => lhs; whnf); all_goals exact rfl)) (by ktr_room) (BindsTo.of_eq rfl) (locs rfl) ?_ rfl rfl rfl (by decide)
  intro g' L' h' FG' F' N' B' X' T'
  (try dsimp only)
  (try k_fold)
  refine fold_A ?_
  intro en9 ak9 hAu9
  have S9 : Site w ak9 (dp + 1) (un + 3) g' L' := Site.mk B' X' T' rfl
  k_extra "mine steps"
  all_goals exact hret _ (c + 1) _ _ [] _ _ (by k_asm) (by (first | lia | omega)) (by (first | lia | omega)) (by (with_reducible rename News _ _ _ _ => kN9); exact kN9) Newer.nil ⟨rfl, _, _, rfl, Int.fmod_nonneg_of_pos _ hm, Int.fmod_lt_of_pos _ hm⟩
theorem IsInts.mono {R R' : Led} (h : IsInts R dl) (s : ∀ p ∈ R, p ∈ R') : IsInts R' dl := by
  obtain ⟨vs, n, ns, a, b, c⟩ := h
  exact ⟨vs, n, ns, s _ a, b, c⟩
theorem lnj26 : True := by
  (k_with "call ref#" => ((fail_if_success k_extra "off j12"); (k_here; (with_reducible show wpAny _ _ (call (Value.ref 498) _ _) _ _ _); k_dflt ((refine' FnD.useI (law_draw_ok ?hi_q ?hD_q ?hc_q ?hc2_q ?hm_q ?hm2_q) ?S_q ?F_q ?N_q ?hd_q ?hu_q ?_; (case N_q => refine' News.cutD ?kN_q ?kC_q; (case kN_q => k_asm); (case kC_q => k_extra "mine cutD")); (case hi_q => first | with_reducible assumption | exact IsInts.mono (by with_reducible assumption) (by k_extra "mine sub")); (case hD_q => first | with_reducible assumption | k_all); (case hc_q => (first | lia | omega)); (case hc2_q => (first | lia | omega)); (case hm_q => first | decide | (first | lia | omega)); (case hm2_q => first | decide | (first | lia | omega))); (case S_q => first | with_reducible assumption | exact Site.mk (by k_asm) (by k_asm) (by k_asm) (by first | exact rfl | with_reducible assumption)); (case F_q => k_asm); (case hd_q => first | exact room (by with_reducible assumption) rfl | ktr_room); (case hu_q => first | exact unitsL (by with_reducible assumption) rfl | ktr_units); intro c9 t9 n9 h9 tk9 v9 tv9 F9 hlo9 hhi9 N9 hv0 hv1; (try k_sweep)))))
  trivial
theorem law_value_ok (hi : IsInts R dl) (hD : ∀ p ∈ R, p.1 ≠ D) (hc : 0 ≤ c) (hc2 : c ≤ 5000) : FnD prog w 2 505 [.ref D] D dl R c 1 (fun r x => x = [] ∧ ∃ y, PVal [] r y ∧ y.isSym = false) := by
  refine FnD.intro ?_
  intro p loose mean mg mb dp un gd cn cs a9 ccd cl outer A₀ base h₀ L m hp gn dr tk0 os Q E t9 n9 B X T hk F N hd hu hret
  refine enter [(Str.ofString "deck", .ref D)] B F X N T rfl rfl hk (by k_is) (by k_is) (by ((conv => lhs; whnf); all_goals exact rfl)) (by ((conv => lhs; whnf); all_goals exact rfl)) (by ktr_room) (BindsTo.of_eq rfl) (locs rfl) ?_ rfl rfl rfl (by decide)
  intro g' L' h' FG' F' N' B' X' T'
  (try dsimp only)
  (try k_fold)
  refine fold_A ?_
  intro en9 ak9 hAu9
  have S9 : Site w ak9 (dp + 1) (un + 3) g' L' := Site.mk B' X' T' rfl
  k_extra "mine steps"
  rename_i v9 tv9 hv0 hv1 N9
  have hv : v9 = 0 ∨ v9 = 1 ∨ v9 = 2 ∨ v9 = 3 := by (first | lia | omega)
  rcases hv with rfl | rfl | rfl | rfl
  · k_extra "mine steps"
    exact hret _ _ _ _ [] _ _ (by k_asm) (by assumption) (by assumption) (by k_extra "mine news") Newer.nil ⟨rfl, _, .none, rfl⟩
  · k_extra "mine steps"
    exact hret _ _ _ _ [] _ _ (by k_asm) (by assumption) (by assumption) (by k_extra "mine news") Newer.nil ⟨rfl, _, .int 0 _, rfl⟩
  · k_extra "mine steps"
    exact hret _ _ _ _ [] _ _ (by k_asm) (by assumption) (by assumption) (by k_extra "mine news") Newer.nil ⟨rfl, _, .true, rfl⟩
  · k_extra "mine steps"
    exact hret _ _ _ _ [] _ _ (by k_asm) (by assumption) (by assumption) (by k_extra "mine news") Newer.nil ⟨rfl, _, .int 1 _, rfl⟩
end
end TR1

section TR2
open PySem PySem.W PyProof.Rows PySem.Calls PySem.Spec
set_option maxRecDepth 100000
set_option maxHeartbeats 2000000

section
variable {prog : Program} {w : World} {R : Led} {D dl : Addr} {c : Int}
theorem lnj27 : True := by
  (k_with "off j12" => skip)
  (k_with "call ref#" => ((fail_if_success k_extra "off j13"); (k_here; (with_reducible show wpAny _ _ (call (Value.ref 505) _ _) _ _ _); k_dflt ((refine' FnD.useP (law_value_ok ?hi_q ?hD_q ?hc_q ?hc2_q) ?S_q ?F_q ?N_q ?hd_q ?hu_q ?_; (case N_q => refine' News.cutD ?kN_q ?kC_q; (case kN_q => k_asm); (case kC_q => k_extra "mine cutD")); (case hi_q => first | with_reducible assumption | exact IsInts.mono (by with_reducible assumption) (by k_extra "mine sub")); (case hD_q => first | with_reducible assumption | k_all); (case hc_q => (first | lia | omega)); (case hc2_q => (first | lia | omega))); (case S_q => first | with_reducible assumption | exact Site.mk (by k_asm) (by k_asm) (by k_asm) (by first | exact rfl | with_reducible assumption)); (case F_q => k_asm); (case hd_q => first | exact room (by with_reducible assumption) rfl | ktr_room); (case hu_q => first | exact unitsL (by with_reducible assumption) rfl | ktr_units); intro r9 c9 t9 n9 h9 tk9 y9 F9 hlo9 hhi9 N9 hy9 hs9; (try k_sweep)))))
  (k_with "call ref#" => ((fail_if_success k_extra "off j13"); (k_here; (with_reducible show wpAny _ _ (call (Value.ref 498) _ _) _ _ _); k_dflt ((refine' FnD.useI (law_draw_ok ?hi_q ?hD_q ?hc_q ?hc2_q ?hm_q ?hm2_q) ?S_q ?F_q ?N_q ?hd_q ?hu_q ?_; (case N_q => refine' News.cutD ?kN_q ?kC_q; (case kN_q => k_asm); (case kC_q => k_extra "mine cutD")); (case hi_q => first | with_reducible assumption | exact IsInts.mono (by with_reducible assumption) (by k_extra "mine sub")); (case hD_q => first | with_reducible assumption | k_all); (case hc_q => (first | lia | omega)); (case hc2_q => (first | lia | omega)); (case hm_q => first | decide | (first | lia | omega)); (case hm2_q => first | decide | (first | lia | omega))); (case S_q => first | with_reducible assumption | exact Site.mk (by k_asm) (by k_asm) (by k_asm) (by first | exact rfl | with_reducible assumption)); (case F_q => k_asm); (case hd_q => first | exact room (by with_reducible assumption) rfl | ktr_room); (case hu_q => first | exact unitsL (by with_reducible assumption) rfl | ktr_units); intro c9 t9 n9 h9 tk9 v9 tv9 F9 hlo9 hhi9 N9 hv0 hv1; rcases split3 hv0 hv1 with e9 | e9 | e9 <;> subst e9 <;> (try k_sweep)))))
  trivial
theorem law_plist_ok (hi : IsInts R dl) (hD : ∀ p ∈ R, p.1 ≠ D) (hc : 0 ≤ c) (hc2 : c ≤ 4990) : FnD prog w 3 512 [.ref D] D dl R c 4 (fun r x => ∃ pl l, r = .ref pl ∧ IsPl x pl l ∧ WfPl l ∧ Canon l ∧ l.length ≤ 3) := by
  refine FnD.intro ?_
  intro p loose mean mg mb dp un gd cn cs a9 ccd cl outer A₀ base h₀ L m hp gn dr tk0 os Q E t9 n9 B X T hk F N hd hu hret
  refine enter [(Str.ofString "deck", .ref D)] B F X N T rfl rfl hk (by k_is) (by k_is) (by ((conv => lhs; whnf); all_goals exact rfl)) (by ((conv => lhs; whnf); all_goals exact rfl)) (by ktr_room) (BindsTo.of_eq rfl) (locs rfl) ?_ rfl rfl rfl (by decide)
  intro g' L' h' FG' F' N' B' X' T'
  (try dsimp only)
  (try k_fold)
  refine fold_A ?_
  intro en9 ak9 hAu9
  have S9 : Site w ak9 (dp + 1) (un + 3) g' L' := Site.mk B' X' T' rfl
  k_extra "mine steps"
  all_goals (refine' FnD.fin hret ?f9 ?n9 ?lo9 ?hi9 ?nw9 ?po9; (case n9 => ((with_reducible rename News _ _ _ _ => kN9); refine' News.cutX kN9 ?kC9; (case kC9 => k_extra "mine cutX"))); (case f9 => k_asm); (case lo9 => (first | lia | omega)); (case hi9 => (first | lia | omega)); (case nw9 => k_extra "mine newer"); (case po9 => exact ⟨_, _, rfl, ⟨_, _, by k_extra "mine memx", by k_extra "mine items"⟩, by repeat (first | exact WfPl.nil | refine WfPl.cons (by first | rfl | (rw [show (_ : PV).isSym = false by with_reducible assumption]; rfl)) ?_), by simp [Canon], by simp⟩))
theorem FnD.useL {prog : Program} {w : World} {need : Nat} {f : Addr} {vs : List Value} {D dl : Addr} {R : Led} {c k : Int} (C : FnD prog w need f vs D dl R c k (fun r x => ∃ pl l, r = .ref pl ∧ IsPl x pl l ∧ WfPl l ∧ Canon l ∧ l.length ≤ 3))
    {A : Around} {dp un : Nat} {h₀ : Heap} {L : Addr} {m : Str → Option Value} {hp : Heap} {gn : Array GenState} {dr : Drawn} {tk : Nat} {os : OsState} {Q E : Value → Shared → Prop} {t : Tok} {n : Nat} (S₀ : Site w A dp un h₀ L) (F : Fr h₀ L hp m) (N : News h₀ L hp ((D, deckO dl c t n) :: R)) (hd : dp + need < recursionLimit) (hu : un + 8 * need < cLine)
    (ret : ∀ c' t' n' x h' tk' pl l, Fr h₀ L h' m → c ≤ c' → c' ≤ c + k → News h₀ L h' ((D, deckO dl c' t' n') :: (x ++ R)) → Newer x ((D, deckO dl c t n) :: R) → IsPl x pl l → WfPl l → Canon l → l.length ≤ 3 → Q (.ref pl) ⟨h', gn, dr, tk', os⟩) : wpAny (model prog w) A (call (.ref f) vs) Q E ⟨hp, gn, dr, tk, os⟩ :=
  FnD.use C S₀ F N hd hu (fun r c' t' n' x h' tk' F lo hi N nw po => by obtain ⟨pl, l, rfl, h1, h2, h3, h4⟩ := po; exact ret c' t' n' x h' tk' pl l F lo hi N nw h1 h2 h3 h4)
end
end TR2

section TV1
open PySem PySem.W PyProof.Rows PySem.Calls PySem.Spec
set_option maxRecDepth 100000
set_option maxHeartbeats 2000000

section
variable {prog : Program} {w : World} {R : Led}
noncomputable def ent (P : Params) (n : String) (t : Tok) (v : Value) : DictEntry := ⟨PyData.keyHash P (Str.ofString n), .str (Str.ofString n) t, v⟩
/-- the rules, their lisp, the held value of the one symbol -/
inductive HasRules (P : Params) (T : Led) (rules : Addr) (held : PV) : Prop
  | mk (dr lisp dl pd hl ht df : Addr) (od : Obj) (t0 t1 t2 t3 t4 t5 t6 t7 t8 u0 u1 u2 u3 u4 s0 s1 s2 s3 a0 b0 : Tok) (hv : Value) (n : Nat)
    (m1 : (rules, instObj 283 dr) ∈ T)
    (m2 : (dr, dictOf [ent P "lisp" t0 (.ref lisp), ent P "nil" t1 .none, ent P "true" t2 (.bool true), ent P "category" t3 (.int 100 u0), ent P "front_sticky" t4 (.int 101 u1), ent P "rear_nonsticky" t5 (.int 102 u2), ent P "evaporate" t6 (.int 103 u3), ent P "priority" t7 (.int 104 u4), ent P "defaults" t8 (.ref df)] 9) ∈ T)
    (m3 : (lisp, instObj 487 dl) ∈ T)
    (m4 : (dl, dictOf [ent P "first" s0 (.int 100 a0), ent P "nil" s1 .none, ent P "true" s2 (.bool true), ent P "plists" s3 (.ref pd)] 4) ∈ T)
    (m5 : (pd, od) ∈ T) (hsy : (pd == sysModules) = false) (hod : ∀ (prog : Program) (w : World), w.params = P → od.IsDictOf (intKind prog w) [(7, .ref hl)])
    (m6 : (hl, listOf #[.ref ht] n) ∈ T) (m7 : (ht, tupObj [.int 2 b0, hv]) ∈ T) (hvp : PVal [] hv held) (hvs : held.isSym = false)
noncomputable def valIn (l : List (Int × PV)) (k : Int) (held : PV) : PV := match plGet l k with
  | some x => x
  | none => match plGet l 100 with
    | some _ => if k = 2 then held else .none
    | none => .none
theorem lnj28 : True := by
  (k_with "off j13" => skip)
  (k_with "mine rules" => ((fail_if_success k_extra "off j14"); first | with_reducible assumption | exact HasRules.mono (by with_reducible assumption) (by k_extra "mine sub")))
  (k_with "mine props" => ((fail_if_success k_extra "off j14"); first | with_reducible assumption | exact HasProps.mono (by with_reducible assumption) (by k_extra "mine sub")))
  (k_with "getAttr ref#" => ((fail_if_success k_extra "off j14"); (k_here; (with_reducible show wpAny _ _ (getAttr (Value.ref _) (Str.ofString "tree") _) _ _ _); k_dflt (refine' get_tree ?k1_q ?k2_q ?k3_q ?k4_q ?_; (case k1_q => k_asm); (case k2_q => k_asm); (case k3_q => k_asm); (case k4_q => k_extra "mine props")))))
  (k_with "mine units" => ((fail_if_success k_extra "off j14"); (have hcL9 := cLine_is; (try simp only [units_under_make, units_in1, units_deeper, Around.mark_units, units_caller] at *); (try dsimp only [ktrTop] at *); (first | lia | omega))))
  (k_with "getMethod ref#" => ((fail_if_success k_extra "off j14"); (k_here; (with_reducible show wpAny _ _ (getMethod (Value.ref _) (Str.ofString "get") _) _ _ _); k_dflt (refine' kdg_method (knd := PySem.intKind _ _) ?k1_q ?k2_q ?k3_q ?_; (case k1_q => k_asm); (case k2_q => k_mem); (case k3_q => k_asm)))))
  (k_with "call builtin:dict.get#" => ((fail_if_success k_extra "off j14"); (k_here; (with_reducible show wpAny _ _ (call (Value.builtin "dict.get") [Value.ref _, Value.int _ _, _]) _ _ _); k_dflt (refine' kdg_get2 (knd := PySem.intKind _ _) ?k1_q ?k2_q ?k3_q ?k4_q (intKind_is _ _ _ _) (some _) ?k5_q ?_; (case k1_q => k_asm); (case k2_q => k_mem); (case k3_q => k_asm); (case k4_q => k_asm); (case k5_q => rfl); (try dsimp only [Option.getD])))))
  trivial
theorem PVal.plain {T : Led} {v : Value} {x : PV} (h : PVal T v x) (hx : x.isSym = false) : PVal [] v x := by
  cases h with
  | none => exact .none
  | int i t => exact .int i t
  | true => exact .true
  | sym => cases hx
theorem number_of_ok {news : Led} {lisp : Addr} {v : Value} (hv : PVal news v .sym) : FnR prog w 1 456 [.ref lisp, v] news (fun r => ∃ t, r = .int 7 t) := by
  cases hv with
  | sym q t1 t2 hq =>
    (first | with_reducible refine FnR.intro ?_ | with_reducible refine FnX.intro ?_ | with_reducible refine FnM.intro ?_ | with_reducible refine @Mine.FnS.intro _ _ _ _ _ _ _ _ _ _ ?_)
    intro p loose mean mg mb dp un gd cn cs a9 ccd cl outer A₀ base h₀ L m hp gn dr tk0 os Q E B X T hk F N hd hu hret
    refine enter [(Str.ofString "self", .ref lisp), (Str.ofString "value", .ref q)] B F X N T rfl rfl hk (by k_is) (by k_is) (by ((conv => lhs; whnf); all_goals exact rfl)) (by ((conv => lhs; whnf); all_goals exact rfl)) (by ktr_room) (BindsTo.of_eq rfl) (locs rfl) ?_ rfl rfl rfl (by decide)
    intro g' L' h' FG' F' N' B' X' T'
    (try dsimp only)
    (try k_fold)
    refine fold_A ?_
    intro en9 ak9 hAu9
    have S9 : Site w ak9 (dp + 1) (un + 3) g' L' := Site.mk B' X' T' rfl
    k_extra "mine steps"
    first | exact hret _ _ _ (by k_asm) (by k_extra "mine drop") ⟨_, rfl⟩ | w_report
theorem lnj29 : True := by
  (k_with "call ref#" => ((fail_if_success k_extra "off j15"); (k_here; (with_reducible show wpAny _ _ (call (Value.ref 245) _ _) _ _ _); k_dflt ((first | (refine' FnR.useV (plist_get_none  ?hp_q ?hz_q ?hg_q) ?S_q ?F_q ?N_q ?hd_q ?hu_q ?_; (case N_q => k_asm); (case hp_q => k_extra "mine pl"); (case hz_q => first | with_reducible assumption | (first | lia | omega)); (case hg_q => with_reducible assumption))); (case S_q => first | with_reducible assumption | exact Site.mk (by k_asm) (by k_asm) (by k_asm) (by first | exact rfl | with_reducible assumption)); (case F_q => k_asm); (case hd_q => first | exact room (by with_reducible assumption) rfl | ktr_room); (case hu_q => first | exact unitsL (by with_reducible assumption) rfl | ktr_units); intro h9 tk9 F9 N9; (try k_sweep)))))
  (k_with "call ref#" => ((fail_if_success k_extra "off j15"); (k_here; (with_reducible show wpAny _ _ (call (Value.ref 245) _ _) _ _ _); k_dflt ((first | (refine' FnX.useS (plist_get_some  ?hp_q ?hz_q ?hg_q) ?S_q ?F_q ?N_q ?hd_q ?hu_q ?_; (case N_q => k_asm); (case hp_q => k_extra "mine pl"); (case hz_q => first | with_reducible assumption | (first | lia | omega)); (case hg_q => with_reducible assumption))); (case S_q => first | with_reducible assumption | exact Site.mk (by k_asm) (by k_asm) (by k_asm) (by first | exact rfl | with_reducible assumption)); (case F_q => k_asm); (case hd_q => first | exact room (by with_reducible assumption) rfl | ktr_room); (case hu_q => first | exact unitsL (by with_reducible assumption) rfl | ktr_units); intro q9 v9 h9 tk9 F9 hv9 N9 hlt9; (try k_sweep)))))
  (k_with "call ref#" => ((fail_if_success k_extra "off j15"); (k_here; (with_reducible show wpAny _ _ (call (Value.ref 456) _ _) _ _ _); k_dflt ((first | (refine' FnR.useI (number_of_ok  ?hv_q) ?S_q ?F_q ?N_q ?hd_q ?hu_q ?_; (case N_q => k_asm); (case hv_q => k_extra "mine pv"))); (case S_q => first | with_reducible assumption | exact Site.mk (by k_asm) (by k_asm) (by k_asm) (by first | exact rfl | with_reducible assumption)); (case F_q => k_asm); (case hd_q => first | exact room (by with_reducible assumption) rfl | ktr_room); (case hu_q => first | exact unitsL (by with_reducible assumption) rfl | ktr_units); intro h9 tk9 F9 N9 t9; (try k_sweep)))))
  trivial
theorem symbol_property_ok {news : Led} {lisp dl pd hl ht : Addr} {od : Obj} {s0 s1 s2 s3 a0 b0 : Tok} {hv : Value} {n : Nat} {v : Value} {k : Int} {t : Tok}
    (m3 : (lisp, instObj 487 dl) ∈ news) (m4 : (dl, dictOf [ent w.params "first" s0 (.int 100 a0), ent w.params "nil" s1 .none, ent w.params "true" s2 (.bool true), ent w.params "plists" s3 (.ref pd)] 4) ∈ news)
    (m5 : (pd, od) ∈ news) (hsy : (pd == sysModules) = false) (hod : od.IsDictOf (intKind prog w) [(7, .ref hl)]) (m6 : (hl, listOf #[.ref ht] n) ∈ news) (m7 : (ht, tupObj [.int 2 b0, hv]) ∈ news) (hs : PVal news v .sym) :
    FnX prog w 3 484 [.ref lisp, v, .int k t] news (fun r news' => (k = 2 ∧ ∃ q, r = .ref q ∧ news' = (q, tupObj [hv]) :: news ∧ AllLt q news) ∨ (k ≠ 2 ∧ r = .none ∧ news' = news)) := by
  (first | with_reducible refine FnR.intro ?_ | with_reducible refine FnX.intro ?_ | with_reducible refine FnM.intro ?_ | with_reducible refine @Mine.FnS.intro _ _ _ _ _ _ _ _ _ _ ?_)
  intro p loose mean mg mb dp un gd cn cs a9 ccd cl outer A₀ base h₀ L m hp gn dr tk0 os Q E B X T hk F N hd hu hret
  refine enter [(Str.ofString "self", .ref lisp), (Str.ofString "value", v), (Str.ofString "number", .int k t)] B F X N T rfl rfl hk (by k_is) (by k_is) (by ((conv => lhs; whnf); all_goals exact rfl)) (by ((conv => lhs; whnf); all_goals exact rfl)) (by ktr_room) (BindsTo.of_eq rfl) (locs rfl) ?_ rfl rfl rfl (by decide)
  intro g' L' h' FG' F' N' B' X' T'
  (try dsimp only)
  (try k_fold)
  refine fold_A ?_
  intro en9 ak9 hAu9
  have S9 : Site w ak9 (dp + 1) (un + 3) g' L' := Site.mk B' X' T' rfl
  k_extra "mine steps"
  rename_i l' _ F9 N9 _
  refine for_list0 (fun r m nx => news = nx ∧ m (Str.ofString "number") = some (.int k t) ∧ ((r = [Value.ref ht]) ∨ (r = [] ∧ k ≠ 2))) rfl F9 (fun p hp => N9 p (List.mem_cons_of_mem _ hp)) m6 rfl rfl ⟨rfl, by k_extra "mine look", .inl rfl⟩ ?_ ?_
  · clear F9 N9
    rintro I o v9 r m₁ nx h1 tk1 hI hne ⟨e9, hm, hr⟩ hx F' N'
    subst e9
    rcases hr with hr | ⟨hr, _⟩
    · obtain ⟨rfl, rfl⟩ := List.cons.inj hr
      have m72 : (ht, tupObj [.int 2 b0, hv]) ∈ (I, o) :: news := List.mem_cons_of_mem _ m7
      clear hr m7
      k_sweep
      k_extra "mine steps"
      · refine hret _ _ _ _ (by k_asm) (by (with_reducible rename News _ _ _ _ => kN9); exact News.deck (R := news) kN9 List.mem_cons_self (fun p hp => List.mem_cons_of_mem _ (List.mem_cons_of_mem _ hp))) (.inl ⟨by (first | lia | omega), _, rfl, rfl, by grind only⟩)
      · refine ForEnd.intro (by k_asm) (by k_asm) (fun p hp => Nat.ne_of_lt (hI p hp)) ⟨hx, rfl, by k_extra "mine look", .inr ⟨rfl, by (first | lia | omega)⟩⟩
    · cases hr
  · clear F9 N9
    rintro m₁ nx h1 tk1 ⟨e9, hm, hr⟩ F' N'
    subst e9
    have hk2 : k ≠ 2 := by
      rcases hr with hr | ⟨_, hr⟩
      · cases hr
      · exact hr
    k_sweep
    k_extra "mine steps"
    exact hret _ _ _ _ (by k_asm) (by k_asm) (.inr ⟨hk2, rfl, rfl⟩)
theorem lnj30 : True := by
  (k_with "call ref#" => ((fail_if_success k_extra "off j15"); (k_here; (with_reducible show wpAny _ _ (call (Value.ref 484) _ _) _ _ _); k_dflt ((refine' FnX.use (symbol_property_ok ?m3_q ?m4_q ?m5_q ?hsy_q ?hod_q ?m6_q ?m7_q ?hs_q) ?S_q ?F_q ?N_q ?hd_q ?hu_q ?_; (case N_q => k_asm); (case m3_q => k_mem); (case m4_q => k_mem); (case m5_q => k_mem); (case hsy_q => with_reducible assumption); (case hod_q => with_reducible assumption); (case m6_q => k_mem); (case m7_q => k_mem); (case hs_q => k_extra "mine pv")); (case S_q => first | with_reducible assumption | exact Site.mk (by k_asm) (by k_asm) (by k_asm) (by first | exact rfl | with_reducible assumption)); (case F_q => k_asm); (case hd_q => first | exact room (by with_reducible assumption) rfl | ktr_room); (case hu_q => first | exact unitsL (by with_reducible assumption) rfl | ktr_units); intro r9 nw9 h9 tk9 F9 N9 post9; rcases post9 with ⟨hk9, q9, er9, en9, hl9⟩ | ⟨hk9, er9, en9⟩ <;> subst er9 <;> subst en9; (try dsimp only); (try k_sweep)))))
  trivial
theorem value_in_ok {news : Led} {rules pl : Addr} {held : PV} {l : List (Int × PV)} {k : Int} {t : Tok} (H : HasRules w.params news rules held) (hp : IsPl news pl l) (wf : WfPl l) (hz : l.length ≤ 4000000) (hk9 : k ≠ 100) :
    FnR prog w 6 294 [.ref rules, .ref pl, .int k t] news (fun r => PVal [] r (valIn l k held)) := by
  obtain ⟨dr, lisp, dl, pd, hl, ht, df, od, t0, t1, t2, t3, t4, t5, t6, t7, t8, u0, u1, u2, u3, u4, s0, s1, s2, s3, a0, b0, hv, n, m1, m2, m3, m4, m5, hsy, hod, m6, m7, hvp, hvs⟩ := H
  have hod := hod prog w rfl
  cases hg : plGet l k with
  | some x =>
    have hx := wf.get hg
    have hx : x.isSym = false := by rw [hx]; simp [hk9]
    have e : valIn l k held = x := by simp [valIn, hg]
    rw [e]
    (first | with_reducible refine FnR.intro ?_ | with_reducible refine FnX.intro ?_ | with_reducible refine FnM.intro ?_ | with_reducible refine @Mine.FnS.intro _ _ _ _ _ _ _ _ _ _ ?_)
    intro p loose mean mg mb dp un gd cn cs a9 ccd cl outer A₀ base h₀ L m hp gn dr tk0 os Q E B X T hk F N hd hu hret
    refine enter [(Str.ofString "rules", .ref rules), (Str.ofString "plist", .ref pl), (Str.ofString "number", .int k t)] B F X N T rfl rfl hk (by k_is) (by k_is) (by ((conv => lhs; whnf); all_goals exact rfl)) (by ((conv => lhs; whnf); all_goals exact rfl)) (by ktr_room) (BindsTo.of_eq rfl) (locs rfl) ?_ rfl rfl rfl (by decide)
    intro g' L' h' FG' F' N' B' X' T'
    (try dsimp only)
    (try k_fold)
    refine fold_A ?_
    intro en9 ak9 hAu9
    have S9 : Site w ak9 (dp + 1) (un + 3) g' L' := Site.mk B' X' T' rfl
    k_extra "mine steps"
    first | exact hret _ _ _ (by k_asm) (by k_extra "mine drop") (PVal.plain (by with_reducible assumption) hx) | w_report
  | none =>
    cases hc : plGet l 100 with
    | none =>
      have e : valIn l k held = .none := by simp [valIn, hg, hc]
      rw [e]
      (first | with_reducible refine FnR.intro ?_ | with_reducible refine FnX.intro ?_ | with_reducible refine FnM.intro ?_ | with_reducible refine @Mine.FnS.intro _ _ _ _ _ _ _ _ _ _ ?_)
      intro p loose mean mg mb dp un gd cn cs a9 ccd cl outer A₀ base h₀ L m hp gn dr tk0 os Q E B X T hk F N hd hu hret
      refine enter [(Str.ofString "rules", .ref rules), (Str.ofString "plist", .ref pl), (Str.ofString "number", .int k t)] B F X N T rfl rfl hk (by k_is) (by k_is) (by ((conv => lhs; whnf); all_goals exact rfl)) (by ((conv => lhs; whnf); all_goals exact rfl)) (by ktr_room) (BindsTo.of_eq rfl) (locs rfl) ?_ rfl rfl rfl (by decide)
      intro g' L' h' FG' F' N' B' X' T'
      (try dsimp only)
      (try k_fold)
      refine fold_A ?_
      intro en9 ak9 hAu9
      have S9 : Site w ak9 (dp + 1) (un + 3) g' L' := Site.mk B' X' T' rfl
      k_extra "mine steps"
      first | exact hret _ _ _ (by k_asm) (by k_extra "mine drop") PVal.none | w_report
    | some y =>
      have hy := wf.get hc
      cases y with
      | none => cases hy
      | int i => cases hy
      | true => cases hy
      | sym =>
        (first | with_reducible refine FnR.intro ?_ | with_reducible refine FnX.intro ?_ | with_reducible refine FnM.intro ?_ | with_reducible refine @Mine.FnS.intro _ _ _ _ _ _ _ _ _ _ ?_)
        intro p loose mean mg mb dp un gd cn cs a9 ccd cl outer A₀ base h₀ L m hp gn dr tk0 os Q E B X T hk F N hd hu hret
        refine enter [(Str.ofString "rules", .ref rules), (Str.ofString "plist", .ref pl), (Str.ofString "number", .int k t)] B F X N T rfl rfl hk (by k_is) (by k_is) (by ((conv => lhs; whnf); all_goals exact rfl)) (by ((conv => lhs; whnf); all_goals exact rfl)) (by ktr_room) (BindsTo.of_eq rfl) (locs rfl) ?_ rfl rfl rfl (by decide)
        intro g' L' h' FG' F' N' B' X' T'
        (try dsimp only)
        (try k_fold)
        refine fold_A ?_
        intro en9 ak9 hAu9
        have S9 : Site w ak9 (dp + 1) (un + 3) g' L' := Site.mk B' X' T' rfl
        k_extra "mine steps"
        · first | exact hret _ _ _ (by k_asm) (by k_extra "mine drop") (by rw [show valIn l k held = held by simp [valIn, hg, hc]; intro h; exact absurd (by assumption) h]; exact hvp) | w_report
        · first | exact hret _ _ _ (by k_asm) (by k_extra "mine drop") (by rw [show valIn l k held = .none by simp [valIn, hg, hc]; intro h; exact absurd h (by assumption)]; exact PVal.none) | w_report
theorem HasRules.mono {P : Params} {T T' : Led} {rules : Addr} {held : PV} (h : HasRules P T rules held) (s : ∀ p ∈ T, p ∈ T') : HasRules P T' rules held := by
  obtain ⟨dr, lisp, dl, pd, hl, ht, df, od, t0, t1, t2, t3, t4, t5, t6, t7, t8, u0, u1, u2, u3, u4, s0, s1, s2, s3, a0, b0, hv, n, m1, m2, m3, m4, m5, hsy, hod, m6, m7, hvp, hvs⟩ := h
  exact ⟨dr, lisp, dl, pd, hl, ht, df, od, t0, t1, t2, t3, t4, t5, t6, t7, t8, u0, u1, u2, u3, u4, s0, s1, s2, s3, a0, b0, hv, n, s _ m1, s _ m2, s _ m3, s _ m4, s _ m5, hsy, hod, s _ m6, s _ m7, hvp, hvs⟩
end
end TV1

section TH1
open PySem PySem.W PyProof.Rows PySem.Calls PySem.Spec
set_option maxRecDepth 100000
set_option maxHeartbeats 2000000

section
variable {prog : Program} {w : World} {news : Led}
/-- a pair (is it a bool, the value) -/
noncomputable def IsLook (T : Led) (v : Value) (y : PV) : Prop := ∃ q u, v = .ref q ∧ (q, tupObj [.bool y.isT, u]) ∈ T ∧ PVal T u y
inductive OneJ (l : List (Int × PV)) (pl : Addr) (k : Int) (t : Tok) (hv : Value) (news : Led) (r : List Value) (m : Str → Option Value) (nx : Led) : Prop
  | mk (lr : List (Int × PV)) (hx : news = nx) (hm1 : m (Str.ofString "plist") = some (.ref pl)) (hm2 : m (Str.ofString "number") = some (.int k t)) (hm3 : m (Str.ofString "my_held") = some hv) (hri : PlItems news r lr) (hJ : plGet l k = plGet lr k)
inductive TwoJ (l : List (Int × PV)) (k : Int) (t : Tok) (hv : Value) (news : Led) (r : List Value) (m : Str → Option Value) (nx : Led) : Prop
  | mk (lr : List (Int × PV)) (hx : news = nx) (hm2 : m (Str.ofString "number") = some (.int k t)) (hm3 : m (Str.ofString "my_held") = some hv) (hri : PlItems news r lr) (hJ : k = 2 → plGet l 100 = plGet lr 100)
theorem lnj31 : True := by
  (k_with "off j15" => skip)
  (k_with "off j14" => skip)
  (k_with "mine rules" => ((fail_if_success k_extra "off j16"); first | with_reducible assumption | exact HasRules.mono (by with_reducible assumption) (by k_extra "mine sub")))
  (k_with "mine props" => ((fail_if_success k_extra "off j16"); first | with_reducible assumption | exact HasProps.mono (by with_reducible assumption) (by k_extra "mine sub")))
  (k_with "getAttr ref#" => ((fail_if_success k_extra "off j16"); (k_here; (with_reducible show wpAny _ _ (getAttr (Value.ref _) (Str.ofString "tree") _) _ _ _); k_dflt (refine' get_tree ?k1_q ?k2_q ?k3_q ?k4_q ?_; (case k1_q => k_asm); (case k2_q => k_asm); (case k3_q => k_asm); (case k4_q => k_extra "mine props")))))
  (k_with "mine units" => ((fail_if_success k_extra "off j16"); (have hcL9 := cLine_is; (try simp only [units_under_make, units_in1, units_deeper, Around.mark_units, units_caller] at *); (try dsimp only [ktrTop] at *); omega)))
  (k_with "getMethod ref#" => ((fail_if_success k_extra "off j16"); (k_here; (with_reducible show wpAny _ _ (getMethod (Value.ref _) (Str.ofString "get") _) _ _ _); k_dflt (refine' kdg_method (knd := PySem.intKind _ _) ?k1_q ?k2_q ?k3_q ?_; (case k1_q => k_asm); (case k2_q => k_mem); (case k3_q => k_asm)))))
  (k_with "call builtin:dict.get#" => ((fail_if_success k_extra "off j16"); (k_here; (with_reducible show wpAny _ _ (call (Value.builtin "dict.get") [Value.ref _, Value.int _ _, _]) _ _ _); k_dflt (refine' kdg_get2 (knd := PySem.intKind _ _) ?k1_q ?k2_q ?k3_q ?k4_q (intKind_is _ _ _ _) (some _) ?k5_q ?_; (case k1_q => k_asm); (case k2_q => k_mem); (case k3_q => k_asm); (case k4_q => k_asm); (case k5_q => rfl); (try dsimp only [Option.getD])))))
  trivial
theorem look_ret {h₀ h' : Heap} {L q I : Addr} {o : Obj} {news : Led} {u : Value} {x : PV} (N : News h₀ L h' ((q, tupObj [.bool x.isT, u]) :: (I, o) :: news)) : News h₀ L h' ((q, tupObj [.bool x.isT, u]) :: news) :=
  News.deck (R := news) N List.mem_cons_self (fun p hp => List.mem_cons_of_mem _ (List.mem_cons_of_mem _ hp))
theorem allLt_tail {q I : Addr} {l : Led} (h : @LT.lt Nat _ I q ∧ AllLt q l) : AllLt q l := h.2
section
theorem lnj32 : True := by
  (k_with "ite#" => ((fail_if_success k_extra "off j17"); (first | refine ite_pos (by with_reducible assumption) ?_ | refine ite_neg (by with_reducible assumption) ?_ | refine ite_neg (ne_tr (by with_reducible assumption)) ?_ | refine ite_pos (by decide) ?_ | refine ite_neg (by decide) ?_ | refine ite_stop ?_)))
  trivial
theorem law_one_ok {pl : Addr} {l : List (Int × PV)} {k : Int} {t : Tok} {hv : Value} {held : PV} (hp : IsPl news pl l) (wf : WfPl l) (hk9 : k ≠ 100) (hh : PVal [] hv held) :
    FnX prog w 2 519 [.ref pl, .int k t, hv] news (fun r news' => ∃ q u, r = .ref q ∧ news' = (q, tupObj [.bool (valIn l k held).isT, u]) :: news ∧ AllLt q news ∧ PVal news u (valIn l k held)) := by
  have hp2 := hp
  obtain ⟨vs, n, hm, hi⟩ := hp2
  (first | with_reducible refine FnR.intro ?_ | with_reducible refine FnX.intro ?_ | with_reducible refine FnM.intro ?_ | with_reducible refine @Mine.FnS.intro _ _ _ _ _ _ _ _ _ _ ?_)
  intro p loose mean mg mb dp un gd cn cs a9 ccd cl outer A₀ base h₀ L m hp gn dr tk0 os Q E B X T hk F N hd hu hret
  refine enter [(Str.ofString "plist", .ref pl), (Str.ofString "number", .int k t), (Str.ofString "my_held", hv)] B F X N T rfl rfl hk (by k_is) (by k_is) (by ((conv => lhs; whnf); all_goals exact rfl)) (by ((conv => lhs; whnf); all_goals exact rfl)) (by ktr_room) (BindsTo.of_eq rfl) (locs rfl) ?_ rfl rfl rfl (by decide)
  intro g' L' h' FG' F' N' B' X' T'
  (try dsimp only)
  (try k_fold)
  refine fold_A ?_
  intro en9 ak9 hAu9
  have S9 : Site w ak9 (dp + 1) (un + 3) g' L' := Site.mk B' X' T' rfl
  k_extra "mine steps"
  refine for_list (OneJ l pl k t hv news) rfl (by k_asm) (by k_asm) hm rfl rfl ⟨l, rfl, rfl, rfl, rfl, hi, rfl⟩ ?_ ?_ (by rfl)
  · rintro I o v9 r m₁ nx h1 tk1 G9 g9 hI hne ⟨lr, rfl, hm1, hm2, hm3, hri, hJ⟩ hx F' N'
    cases hri with
    | cons q k1 t1 v x hq hv hr =>
      rename_i lr
      have hq2 : (q, tupObj [.int k1 t1, v]) ∈ (I, o) :: news := List.mem_cons_of_mem _ hq
      refine g9 ?_
      intro P9
      k_extra "mine steps"
      by_cases hkk : k1 = k
      · rw [plGet, if_pos hkk] at hJ
        have hval : valIn l k held = x := by simp [valIn, hJ]
        rw [hval] at hret
        refine stop_eq hkk ?_
        k_extra "mine steps"
        exact hret _ _ _ _ (by k_asm) (look_ret (by k_asm)) ⟨_, _, rfl, rfl, allLt_tail (by with_reducible assumption), hv⟩
      · rw [plGet, if_neg hkk] at hJ
        refine stop_ne hkk ?_
        k_extra "mine steps"
        exact ForEnd.intro (by k_asm) (by k_asm) hne ⟨hx, lr, rfl, by k_extra "mine look", by k_extra "mine look", by k_extra "mine look", hr, hJ⟩
  · rintro m₁ nx h1 tk1 ⟨lr, rfl, hm1, hm2, hm3, hri, hJ⟩ F' N'
    cases hri
    simp only [plGet] at hJ
    k_sweep
    k_extra "mine steps"
    refine for_list (TwoJ l k t hv news) rfl (by k_asm) (by k_asm) hm rfl rfl ⟨l, rfl, by k_extra "mine look", by k_extra "mine look", hi, fun _ => rfl⟩ ?_ ?_ (by rfl)
    · rintro I o v9 r m₁ nx h1 tk1 G9 g9 hI hne ⟨lr, rfl, hm2, hm3, hri, hJ2⟩ hx F' N'
      cases hri with
      | cons q k1 t1 v x hq hv hr =>
        rename_i lr
        have hq2 : (q, tupObj [.int k1 t1, v]) ∈ (I, o) :: news := List.mem_cons_of_mem _ hq
        refine g9 ?_
        intro P9
        k_extra "mine steps"
        by_cases hk1 : k1 = 100
        · refine stop_eq hk1 ?_
          k_extra "mine steps"
          by_cases hk2 : k = 2
          · have hval : valIn l k held = held := by
              have := hJ2 hk2
              rw [plGet, if_pos hk1] at this
              simp only [valIn, hJ, this, if_pos hk2]
            rw [hval] at hret
            refine stop_eq hk2 ?_
            k_extra "mine steps"
            exact hret _ _ _ _ (by k_asm) (look_ret (by k_asm)) ⟨_, _, rfl, rfl, allLt_tail (by with_reducible assumption), hh.mono (fun _ h => nomatch h)⟩
          · refine stop_ne hk2 ?_
            k_extra "mine steps"
            exact ForEnd.intro (by k_asm) (by k_asm) hne ⟨hx, lr, rfl, by k_extra "mine look", by k_extra "mine look", hr, fun h2 => absurd h2 hk2⟩
        · have hJ3 : k = 2 → plGet l 100 = plGet lr 100 := fun h2 => by
            have := hJ2 h2
            rw [plGet, if_neg hk1] at this
            exact this
          refine stop_ne hk1 ?_
          k_extra "mine steps"
          exact ForEnd.intro (by k_asm) (by k_asm) hne ⟨hx, lr, rfl, by k_extra "mine look", by k_extra "mine look", hr, hJ3⟩
    · rintro m₁ nx h1 tk1 ⟨lr, rfl, hm2, hm3, hri, hJ2⟩ F' N'
      cases hri
      have hval : valIn l k held = .none := by
        simp only [valIn, hJ]
        split
        · rename_i y hy
          rw [if_neg fun h2 => ?_]
          have := hJ2 h2
          rw [hy] at this
          cases this
        · rfl
      rw [hval] at hret
      k_sweep
      k_extra "mine steps"
      exact hret _ _ _ _ (by k_asm) (by k_asm) ⟨_, _, rfl, rfl, allLt_of (by with_reducible assumption), .none⟩
end
end
end TH1

section TL2
open PySem PySem.W PyProof.Rows PySem.Calls PySem.Spec
set_option maxRecDepth 100000
set_option maxHeartbeats 2000000
/-- a comprehension's three objects out of a ledger -/
inductive Cut3 (I : Addr) (oI : Obj) (C : Addr) (oC : Obj) (D : Addr) (oD : Obj) : Led → Led → Prop
  | base {l : Led} : Cut3 I oI C oC D oD ((I, oI) :: (C, oC) :: (D, oD) :: l) l
  | cons {c : Addr × Obj} {l r : Led} : Cut3 I oI C oC D oD l r → Cut3 I oI C oC D oD (c :: l) (c :: r)
  | app {x l r : Led} : Cut3 I oI C oC D oD l r → Cut3 I oI C oC D oD (x ++ l) (x ++ r)
theorem lnj33 : True := by
  (k_with "off j17" => skip)
  (k_with "off j16" => skip)
  trivial
theorem Cut3.sub {I C D : Addr} {oI oC oD : Obj} {l r : Led} (c : Cut3 I oI C oC D oD l r) : ∀ p ∈ (I, oI) :: (C, oC) :: (D, oD) :: r, p ∈ l := by
  induction c with
  | base => exact fun _ h => h
  | cons _ ih =>
    intro p hp
    simp only [List.mem_cons] at hp ih ⊢
    grind only
  | app _ ih =>
    intro p hp
    simp only [List.mem_cons, List.mem_append] at hp ih ⊢
    grind only
/-- x lies apart from l -/
noncomputable def Apart (x l : Led) : Prop := ∀ p ∈ x, ∀ q ∈ l, q.1 ≠ p.1
theorem Apart.nil {l : Led} : Apart [] l := fun _ h => nomatch h
theorem Apart.cons {a : Addr} {o : Obj} {x l : Led} (h : ∀ q ∈ l, q.1 ≠ a) (n : Apart x l) : Apart ((a, o) :: x) l := by
  intro p hp q hq
  rcases List.mem_cons.mp hp with rfl | hp
  · exact h q hq
  · exact n p hp q hq
theorem Apart.app {x y l : Led} (h : Apart x l) (n : Apart y l) : Apart (x ++ y) l := by
  intro p hp q hq
  rcases List.mem_append.mp hp with hp | hp
  · exact h p hp q hq
  · exact n p hp q hq
theorem Apart.sub {x l l' : Led} (h : Apart x l) (n : ∀ p ∈ l', p ∈ l) : Apart x l' := fun p hp q hq => h p hp q (n q hq)
theorem Newer.apart {x l : Led} (h : Newer x l) : Apart x l := fun p hp q hq => Nat.ne_of_lt (h p hp q hq)
theorem off1_ne {D : Addr} : ∀ {l : Led}, LCg.Off1 D l → ∀ q ∈ l, q.1 ≠ D
  | [], _, _, h => nomatch h
  | _ :: _, x, p, h => by
    rcases List.mem_cons.mp h with rfl | h
    · exact x.1
    · exact off1_ne x.2 p h
theorem allLt_lt {a : Addr} : ∀ {l : Led}, AllLt a l → ∀ q ∈ l, q.1 < a
  | [], _, _, h => nomatch h
  | _ :: _, x, p, h => by
    rcases List.mem_cons.mp h with rfl | h
    · exact x.1
    · exact allLt_lt x.2 p h
theorem allLt_ne' {a : Addr} {l : Led} (h : AllLt a l) : ∀ q ∈ l, q.1 ≠ a := fun q hq => Nat.ne_of_lt (allLt_lt h q hq)
theorem Off3.cons' {I C D : Addr} {q : Addr} {o : Obj} {l : Led} (a : q ≠ I) (b : q ≠ C) (c : q ≠ D) (h : LCg.Off3 I C D l) : LCg.Off3 I C D ((q, o) :: l) := ⟨⟨a, b, c⟩, h⟩
theorem Off3.app {I C D : Addr} {x l all : Led} {oI oC oD : Obj} (n : Apart x all) (a : (I, oI) ∈ all) (b : (C, oC) ∈ all) (c : (D, oD) ∈ all) (h : LCg.Off3 I C D l) : LCg.Off3 I C D (x ++ l) :=
  LCg.Off3.of fun p hp => by
    rcases List.mem_append.mp hp with hp | hp
    · exact ⟨(n p hp _ a).symm, (n p hp _ b).symm, (n p hp _ c).symm⟩
    · exact h.mem p hp
section
variable {prog : Program} {w : World} {A : Around} {h₀ : Heap} {L : Addr} {m : Str → Option Value} {env : Env} {ct elt : Expr} {x x₂ : Str} {scope : Scope} {cl : List (Str × Addr)} {s : Shared} {S : Led → Prop} {P : Nat → Value → Prop} {Fin : List Value → Led → Prop} {news : Led}
theorem compEnd_cut {I C D : Addr} {s₁ : Shared} {oI oC oD : Obj} {rest : Value → Led → Prop} {y : Value} {h' : Heap} {tk : Nat} {all news' : Led}
    (F : Fr h₀ L h' m) (N : News h₀ L h' all) (c : Cut3 I oI C oC D oD all news') (off : LCg.Off3 I C D news') (hS : S news') (r : rest y news') :
    LCg.CompEnd h₀ L m s₁ I oI C oC D oD S rest y { s₁ with heap := h', toks := tk } := LCg.CompEnd.intro F N news' c.sub off hS r
theorem compU_by {hp : Heap} {gn : Array GenState} {dr : Drawn} {tk0 : Nat} {os : OsState} {n : Nat} (J : Nat → List Value → Led → Prop) (h0 : J 0 [] news) (fin : ∀ ys news', J n ys news' → Fin ys news')
    (turn : ∀ i v ys nx I oI C oC D m₂ h tk (E' : Value → Shared → Prop), i < n → P i v → J i ys nx → LCg.NsObj oC m₂ → m₂ x = some v → Fr h₀ L h m → News h₀ L h ((I, oI) :: (C, oC) :: (D, LCg.lst ys) :: nx) → LCg.Off3 I C D nx → ((@Ne Nat I C) ∧ (@Ne Nat I D) ∧ (@Ne Nat C D)) →
      wpAny (model prog w) A (eval elt (compEnvC scope cl C env)) (LCg.CompEnd h₀ L m ⟨h, gn, dr, tk, os⟩ I oI C oC D (LCg.lst ys) S (fun y news' => J (i + 1) (ys ++ [y]) news')) E' ⟨h, gn, dr, tk, os⟩) :
    LCg.CompRest prog w A h₀ L m env elt x scope cl ⟨hp, gn, dr, tk0, os⟩ S P Fin n 0 [] news := by
  have key : ∀ (j i : Nat) (ys : List Value) (nx : Led), i + j = n → J i ys nx → LCg.CompRest prog w A h₀ L m env elt x scope cl ⟨hp, gn, dr, tk0, os⟩ S P Fin j i ys nx := by
    intro j
    induction j with
    | zero =>
      intro i ys nx hi hj
      obtain rfl : i = n := by (first | lia | omega)
      exact LCg.CompRest.zero (fin ys nx hj)
    | succ j ih =>
      intro i ys nx hi hj
      refine LCg.CompRest.succ ?_
      intro v I oI C oC D m₂ h tk E' hv hC hx F N off ne
      refine wpAny_mono (turn i v ys nx I oI C oC D m₂ h tk E' (by (first | lia | omega)) hv hj hC hx F N off ne) (fun y s₂ hq => ?_) fun _ _ e => e
      obtain ⟨h', tk', nw, e, F', N', off', hS, hn⟩ := hq
      exact ⟨h', tk', nw, e, F', N', off', hS, ih (i + 1) _ nw (by (first | lia | omega)) hn⟩
  exact key n 0 [] news (by (first | lia | omega)) h0
theorem compT_by {hp : Heap} {gn : Array GenState} {dr : Drawn} {tk0 : Nat} {os : OsState} {n : Nat} (J : Nat → List Value → Led → Prop) (h0 : J 0 [] news) (fin : ∀ ys news', J n ys news' → Fin ys news')
    (turn : ∀ i v ys nx I oI C oC D m₂ h tk (E' : Value → Shared → Prop), i < n → P i v → J i ys nx → LCg.NsObj oC m₂ → m₂ x = some v → Fr h₀ L h m → News h₀ L h ((I, oI) :: (C, oC) :: (D, LCg.lst ys) :: nx) → LCg.Off3 I C D nx → ((@Ne Nat I C) ∧ (@Ne Nat I D) ∧ (@Ne Nat C D)) →
      wpAny (model prog w) A (isTrue ct (compEnvC scope cl C env) (eval ct (compEnvC scope cl C env))) (fun ok s' => if ok = true then
        wpAny (model prog w) A (eval elt (compEnvC scope cl C env)) (LCg.CompEnd h₀ L m ⟨h, gn, dr, tk, os⟩ I oI C oC D (LCg.lst ys) S (fun y news' => J (i + 1) (ys ++ [y]) news')) E' s'
        else LCg.CompEnd h₀ L m ⟨h, gn, dr, tk, os⟩ I oI C oC D (LCg.lst ys) S (fun _ news' => J (i + 1) ys news') Value.none s') E' ⟨h, gn, dr, tk, os⟩) :
    LCt.CompRestT prog w A h₀ L m env ct elt x scope cl ⟨hp, gn, dr, tk0, os⟩ S P Fin n 0 [] news := by
  have key : ∀ (j i : Nat) (ys : List Value) (nx : Led), i + j = n → J i ys nx → LCt.CompRestT prog w A h₀ L m env ct elt x scope cl ⟨hp, gn, dr, tk0, os⟩ S P Fin j i ys nx := by
    intro j
    induction j with
    | zero =>
      intro i ys nx hi hj
      obtain rfl : i = n := by (first | lia | omega)
      exact LCt.CompRestT.zero (fin ys nx hj)
    | succ j ih =>
      intro i ys nx hi hj
      refine LCt.CompRestT.succ ?_
      intro v I oI C oC D m₂ h tk E' hv hC hx F N off ne
      refine wpAny_mono (turn i v ys nx I oI C oC D m₂ h tk E' (by (first | lia | omega)) hv hj hC hx F N off ne) (fun ok s₂ hq => ?_) fun _ _ e => e
      cases ok with
      | true =>
        simp only [if_true] at hq ⊢
        refine wpAny_mono hq (fun y s₃ hq => ?_) fun _ _ e => e
        obtain ⟨h', tk', nw, e, F', N', off', hS, hn⟩ := hq
        exact ⟨h', tk', nw, e, F', N', off', hS, ih (i + 1) _ nw (by (first | lia | omega)) hn⟩
      | false =>
        simp only [Bool.false_eq_true, if_false] at hq ⊢
        obtain ⟨h', tk', nw, e, F', N', off', hS, hn⟩ := hq
        exact ⟨h', tk', nw, e, F', N', off', hS, ih (i + 1) _ nw (by (first | lia | omega)) hn⟩
  exact key n 0 [] news (by (first | lia | omega)) h0
theorem compP_by {hp : Heap} {gn : Array GenState} {dr : Drawn} {tk0 : Nat} {os : OsState} {n : Nat} (J : Nat → List Value → Led → Prop) (h0 : J 0 [] news) (fin : ∀ ys news', J n ys news' → Fin ys news')
    (turn : ∀ i v ys nx, i < n → P i v → J i ys nx → ∃ (t : Addr) (ot : Obj) (v₁ v₂ : Value) (nt : Nat), v = .ref t ∧ (t, ot) ∈ nx ∧ ot.cls = .type "tuple" ∧ ot.data = .seq #[v₁, v₂] nt ∧
      ∀ I oI C oC D m₂ h tk (E' : Value → Shared → Prop), LCg.NsObj oC m₂ → m₂ x = some v₁ → m₂ x₂ = some v₂ → Fr h₀ L h m → News h₀ L h ((I, oI) :: (C, oC) :: (D, LCg.lst ys) :: nx) → LCg.Off3 I C D nx → ((@Ne Nat I C) ∧ (@Ne Nat I D) ∧ (@Ne Nat C D)) →
      wpAny (model prog w) A (eval elt (compEnvC scope cl C env)) (LCg.CompEnd h₀ L m ⟨h, gn, dr, tk, os⟩ I oI C oC D (LCg.lst ys) S (fun y news' => J (i + 1) (ys ++ [y]) news')) E' ⟨h, gn, dr, tk, os⟩) :
    LCp.CompRestP prog w A h₀ L m env elt x x₂ scope cl ⟨hp, gn, dr, tk0, os⟩ S P Fin n 0 [] news := by
  have key : ∀ (j i : Nat) (ys : List Value) (nx : Led), i + j = n → J i ys nx → LCp.CompRestP prog w A h₀ L m env elt x x₂ scope cl ⟨hp, gn, dr, tk0, os⟩ S P Fin j i ys nx := by
    intro j
    induction j with
    | zero =>
      intro i ys nx hi hj
      obtain rfl : i = n := by (first | lia | omega)
      exact LCp.CompRestP.zero (fin ys nx hj)
    | succ j ih =>
      intro i ys nx hi hj
      refine LCp.CompRestP.succ ?_
      intro v hv
      obtain ⟨t, ot, v₁, v₂, nt, e1, e2, e3, e4, go⟩ := turn i v ys nx (by (first | lia | omega)) hv hj
      refine ⟨t, ot, v₁, v₂, nt, e1, e2, e3, e4, ?_⟩
      intro I oI C oC D m₂ h tk E' hC hx hy F N off ne
      refine wpAny_mono (go I oI C oC D m₂ h tk E' hC hx hy F N off ne) (fun y s₂ hq => ?_) fun _ _ e => e
      obtain ⟨h', tk', nw, e, F', N', off', hS, hn⟩ := hq
      exact ⟨h', tk', nw, e, F', N', off', hS, ih (i + 1) _ nw (by (first | lia | omega)) hn⟩
  exact key n 0 [] news (by (first | lia | omega)) h0
theorem compSrc_range {r : Addr} {a b : Int} {t u v : Tok} {s₁ : Shared} {F' : Shared → List Value → Led → Prop} (hh : A.handled = none) (F : Fr h₀ L s₁.heap m) (N : News h₀ L s₁.heap news) (hr : IsRange s₁.heap r a b 1 t u v) (ha : 0 ≤ a ∧ a ≤ 4000000) (hb : 0 ≤ b ∧ b ≤ 4000000)
    (h : ∀ g, Stop (LCg.CompRest prog w A h₀ L m env elt x scope cl { s₁ with heap := g } (fun _ => True) (fun i v => ∃ t, v = .int (a + (i : Int)) t) (F' { s₁ with heap := g }) (b - a).toNat 0 [] news)) :
    LCg.CompSrc prog w A h₀ L m env elt x scope cl F' (.ref r) s₁ :=
  LCg.CompSrc.range hh F N hr (small_one (by (first | lia | omega)) (by (first | lia | omega)) (by (first | lia | omega)) (by (first | lia | omega))) (by rw [rangeSize_one]; split <;> (first | lia | omega)) (by rw [sizeLine_eq]; (first | lia | omega)) h
theorem compSrc_list {ax : Addr} {its : Array Value} {k : Nat} {s₁ : Shared} {F' : Shared → List Value → Led → Prop} (hh : A.handled = none) (F : Fr h₀ L s₁.heap m) (N : News h₀ L s₁.heap news) (hm : (ax, ({ cls := .type "list", data := .seq its k } : Obj)) ∈ news) (hsz : its.size ≤ 4000000)
    (h : ∀ g, Stop (LCg.CompRest prog w A h₀ L m env elt x scope cl { s₁ with heap := g } (LCg.SrcAt h₀ ax its) (fun i v => its[i]? = some v) (F' { s₁ with heap := g }) its.size 0 [] news)) :
    LCg.CompSrc prog w A h₀ L m env elt x scope cl F' (.ref ax) s₁ := LCg.CompSrc.ledger hh F N hm (by rw [sizeLine_eq]; (first | lia | omega)) h
theorem compSrcT_range {r : Addr} {a b : Int} {t u v : Tok} {s₁ : Shared} {F' : Shared → List Value → Led → Prop} (hh : A.handled = none) (F : Fr h₀ L s₁.heap m) (N : News h₀ L s₁.heap news) (hr : IsRange s₁.heap r a b 1 t u v) (ha : 0 ≤ a ∧ a ≤ 4000000) (hb : 0 ≤ b ∧ b ≤ 4000000)
    (h : ∀ g, Stop (LCt.CompRestT prog w A h₀ L m env ct elt x scope cl { s₁ with heap := g } (fun _ => True) (fun i v => ∃ t, v = .int (a + (i : Int)) t) (F' { s₁ with heap := g }) (b - a).toNat 0 [] news)) :
    LCt.CompSrcT prog w A h₀ L m env ct elt x scope cl F' (.ref r) s₁ :=
  LCt.CompSrcT.range hh F N hr (small_one (by (first | lia | omega)) (by (first | lia | omega)) (by (first | lia | omega)) (by (first | lia | omega))) (by rw [rangeSize_one]; split <;> (first | lia | omega)) (by rw [sizeLine_eq]; (first | lia | omega)) h
end
end TL2

section TH2
open PySem PySem.W PyProof.Rows PySem.Calls PySem.Spec
set_option maxRecDepth 100000
set_option maxHeartbeats 4000000
/-- pairs (number, look) for the entries of a plist -/
inductive AllAre (T : Led) : List Value → List (Int × PV) → Prop
  | nil : AllAre T [] []
  | cons {vs : List Value} {l : List (Int × PV)} (q : Addr) (k : Int) (t : Tok) (v : Value) (x : PV) : (q, tupObj [.int k t, v]) ∈ T → IsLook T v x → AllAre T vs l → AllAre T (.ref q :: vs) ((k, x) :: l)
theorem IsLook.mono {T T' : Led} {v : Value} {x : PV} (h : IsLook T v x) (s : ∀ p ∈ T, p ∈ T') : IsLook T' v x := by
  obtain ⟨q, u, e, hm, hp⟩ := h
  exact ⟨q, u, e, s _ hm, hp.mono s⟩
theorem AllAre.mono {T T' : Led} {vs : List Value} {l : List (Int × PV)} (h : AllAre T vs l) (s : ∀ p ∈ T, p ∈ T') : AllAre T' vs l := by
  induction h with
  | nil => exact .nil
  | cons q k t v x hm hv _ ih => exact .cons q k t v x (s _ hm) (hv.mono s) ih
theorem AllAre.snoc {T : Led} {vs : List Value} {l : List (Int × PV)} (h : AllAre T vs l) {q : Addr} {k : Int} {t : Tok} {v : Value} {x : PV} (hm : (q, tupObj [.int k t, v]) ∈ T) (hv : IsLook T v x) : AllAre T (vs ++ [.ref q]) (l ++ [(k, x)]) := by
  induction h with
  | nil => exact .cons q k t v x hm hv .nil
  | cons q' k' t' v' x' hm' hv' _ ih => exact .cons q' k' t' v' x' hm' hv' ih
inductive RowsAre (T : Led) : List (Int × Value) → List (Int × PV) → Prop
  | nil : RowsAre T [] []
  | cons {vs : List (Int × Value)} {l : List (Int × PV)} (k : Int) (v : Value) (x : PV) : IsLook T v x → RowsAre T vs l → RowsAre T ((k, v) :: vs) ((k, x) :: l)
theorem RowsAre.mono {T T' : Led} {vs : List (Int × Value)} {l : List (Int × PV)} (h : RowsAre T vs l) (s : ∀ p ∈ T, p ∈ T') : RowsAre T' vs l := by
  induction h with
  | nil => exact .nil
  | cons k v x hv _ ih => exact .cons k v x (hv.mono s) ih
theorem RowsAre.keys {T : Led} {vs : List (Int × Value)} {l : List (Int × PV)} (h : RowsAre T vs l) : vs.map (·.1) = l.map (·.1) := by
  induction h with
  | nil => rfl
  | cons k v x hv _ ih => simp [ih]
theorem AllAre.rows {T : Led} {vs : List Value} {l : List (Int × PV)} (h : AllAre T vs l) : ∃ rows, rows.length = vs.length ∧ RowsAre T rows l ∧
    ∀ (i : Nat) (v : Value), vs[i]? = some v → ∃ q k t u, v = .ref q ∧ rows[i]? = some (k, u) ∧ (q, tupObj [.int k t, u]) ∈ T := by
  induction h with
  | nil => exact ⟨[], rfl, .nil, fun i v h => by simp at h⟩
  | cons q k t v x hm hv _ ih =>
    obtain ⟨rows, e, r, f⟩ := ih
    refine ⟨(k, v) :: rows, by simp [e], .cons k v x hv r, fun i u h => ?_⟩
    cases i with
    | zero =>
      simp at h
      exact ⟨q, k, t, v, h.symm, rfl, hm⟩
    | succ i => simpa using f i u (by simpa using h)
theorem canon_nodup {l : List (Int × PV)} (h : Canon l) : (l.map (·.1)).Nodup := by
  induction l with
  | nil => simp
  | cons p l ih =>
    rw [Canon, List.pairwise_cons] at h
    rw [List.map_cons, List.nodup_cons]
    refine ⟨fun hm => ?_, ih h.2⟩
    obtain ⟨q, hq, e⟩ := List.mem_map.mp hm
    have := h.1 q hq
    (first | lia | omega)
/-- the dict that _law_all gives -/
noncomputable def IsAll (prog : Program) (w : World) (T : Led) (v : Value) (l : List (Int × PV)) : Prop := ∃ D o rows, v = .ref D ∧ (D, o) ∈ T ∧ (D == sysModules) = false ∧ o.IsDictOf (intKind prog w) rows ∧ RowsAre T rows l
theorem IsAll.mono {prog : Program} {w : World} {T T' : Led} {v : Value} {l : List (Int × PV)} (h : IsAll prog w T v l) (s : ∀ p ∈ T, p ∈ T') : IsAll prog w T' v l := by
  obtain ⟨D, o, rows, e, hm, hs, hd, hr⟩ := h
  exact ⟨D, o, rows, e, s _ hm, hs, hd, hr.mono s⟩
end TH2

section TH6
open PySem PySem.W PyProof.Rows PySem.Calls PySem.Spec
set_option maxRecDepth 100000
set_option maxHeartbeats 4000000
section
variable {prog : Program} {w : World} {news : Led}
noncomputable def AllK (T0 news : Led) (l : List (Int × PV)) (i : Nat) (ys : List Value) (nx : Led) : Prop := ∃ x, nx = x ++ news ∧ Apart x news ∧ AllAre (x ++ T0) ys (l.take i)
theorem lnj34 : True := by
  (k_with "mine rules" => ((fail_if_success k_extra "off j18"); first | with_reducible assumption | exact HasRules.mono (by with_reducible assumption) (by k_extra "mine sub")))
  (k_with "mine props" => ((fail_if_success k_extra "off j18"); first | with_reducible assumption | exact HasProps.mono (by with_reducible assumption) (by k_extra "mine sub")))
  (k_with "getAttr ref#" => ((fail_if_success k_extra "off j18"); (k_here; (with_reducible show wpAny _ _ (getAttr (Value.ref _) (Str.ofString "tree") _) _ _ _); k_dflt (refine' get_tree ?k1_q ?k2_q ?k3_q ?k4_q ?_; (case k1_q => k_asm); (case k2_q => k_asm); (case k3_q => k_asm); (case k4_q => k_extra "mine props")))))
  (k_with "mine units" => ((fail_if_success k_extra "off j18"); (have hcL9 := cLine_is; (try simp only [units_under_make, units_in1, units_deeper, Around.mark_units, units_caller] at *); (try dsimp only [ktrTop] at *); (first | lia | omega))))
  (k_with "getMethod ref#" => ((fail_if_success k_extra "off j18"); (k_here; (with_reducible show wpAny _ _ (getMethod (Value.ref _) (Str.ofString "get") _) _ _ _); k_dflt (refine' kdg_method (knd := PySem.intKind _ _) ?k1_q ?k2_q ?k3_q ?_; (case k1_q => k_asm); (case k2_q => k_mem); (case k3_q => k_asm)))))
  (k_with "call builtin:dict.get#" => ((fail_if_success k_extra "off j18"); (k_here; (with_reducible show wpAny _ _ (call (Value.builtin "dict.get") [Value.ref _, Value.int _ _, _]) _ _ _); k_dflt (refine' kdg_get2 (knd := PySem.intKind _ _) ?k1_q ?k2_q ?k3_q ?k4_q (intKind_is _ _ _ _) (some _) ?k5_q ?_; (case k1_q => k_asm); (case k2_q => k_mem); (case k3_q => k_asm); (case k4_q => k_asm); (case k5_q => rfl); (try dsimp only [Option.getD])))))
  (k_with "call builtin:isinstance#" => ((fail_if_success k_extra "off j18"); (k_here; (with_reducible show wpAny _ _ (call (Value.builtin "isinstance") [_, Value.type "bool"] _) _ _ _); k_dflt (refine' isi_bool ?k1_q ?k2_q ?_; (case k1_q => k_asm); (case k2_q => k_extra "mine pv")))))
  (k_with "CompRestP#" => ((fail_if_success k_extra "off j18"); (refine stop_any ?_)))
  (k_with "SrcLP#" => ((fail_if_success k_extra "off j18"); (k_here; k_dflt (refine' LCp.SrcLP.ledger ?k0_q ?k1_q ?k2_q ?k3_q ?k4_q ?_; (case k0_q => rfl); (case k1_q => k_asm); (case k2_q => k_asm); (case k3_q => k_mem); (case k4_q => (simp only [sizeLine_eq, List.size_toArray]; (first | lia | omega))); intro g9; refine stop_any ?_))))
  (k_with "mine cut3" => ((fail_if_success k_extra "off j18"); repeat (first | exact Cut3.base | apply Cut3.cons | apply Cut3.app)))
  (k_with "mine off3" => ((fail_if_success k_extra "off j18"); repeat (first | with_reducible assumption | refine Off3.cons' (by grind only) (by grind only) (by grind only) ?_)))
  (k_with "CompEnd#" => ((fail_if_success k_extra "off j18"); (k_here; k_dflt (refine' compEnd_cut ?k1_q ?k2_q ?k3_q ?k4_q ?k5_q ?_; (case k1_q => k_asm); (case k2_q => k_asm); (case k3_q => k_extra "mine cut3"); (case k4_q => k_extra "mine off3"); (case k5_q => exact .inr ⟨_, by k_mem, rfl, _, rfl⟩)))))
  trivial
theorem law_all_in {T0 : Led} {pl : Addr} {l : List (Int × PV)} (hp : IsPl T0 pl l) (hs : ∀ p ∈ T0, p ∈ news) (wf : WfPl l) (hl : l.length ≤ 3) (hca : Canon l) :
    FnX prog w 2 524 [.ref pl] news (fun r news' => ∃ x, news' = x ++ news ∧ Apart x news ∧ IsAll prog w (x ++ T0) r l) := by
  obtain ⟨vs, n, hm, hi⟩ := hp
  replace hm := hs _ hm
  have hvl := hi.length
  have hvl3 : vs.length ≤ 3 := by (first | lia | omega)
  (first | with_reducible refine FnR.intro ?_ | with_reducible refine FnX.intro ?_ | with_reducible refine FnM.intro ?_ | with_reducible refine @Mine.FnS.intro _ _ _ _ _ _ _ _ _ _ ?_)
  intro p loose mean mg mb dp un gd cn cs a9 ccd cl outer A₀ base h₀ L m hp gn dr tk0 os Q E B X T hk F N hd hu hret
  refine enter [(Str.ofString "plist", .ref pl)] B F X N T rfl rfl hk (by k_is) (by k_is) (by ((conv => lhs; whnf); all_goals exact rfl)) (by ((conv => lhs; whnf); all_goals exact rfl)) (by ktr_room) (BindsTo.of_eq rfl) (locs rfl) ?_ rfl rfl rfl (by decide)
  intro g' L' h' FG' F' N' B' X' T'
  (try dsimp only)
  (try k_fold)
  refine fold_A ?_
  intro en9 ak9 hAu9
  have S9 : Site w ak9 (dp + 1) (un + 3) g' L' := Site.mk B' X' T' rfl
  k_extra "mine steps"
  (try dsimp only)
  refine compP_by (AllK T0 news l) ⟨[], rfl, Apart.nil, .nil⟩ ?_ ?_
  · rintro ys nx ⟨x, rfl, hx, ha⟩
    rw [show vs.toArray.size = l.length from by simpa using hvl, List.take_length] at ha
    k_extra "mine steps"
    rename_i D1 h1 t1 F1 N1 o1
    obtain ⟨rows, hrl, hra, hrf⟩ := ha.rows
    refine dk_news rfl (by k_asm) (by k_asm) (modules_low (Top.nolimit (by with_reducible assumption))) List.mem_cons_self rows ?_ hrl ?_ (by rw [hra.keys]; exact canon_nodup hca) ?_
    · intro i v hv
      obtain ⟨q, k, t, u, e, e2, hm2⟩ := hrf i v hv
      exact ⟨q, k, t, u, e, e2, List.mem_cons_of_mem _ ((List.mem_append.mp hm2).elim (fun h => List.mem_append_left _ h) fun h => List.mem_append_right _ (hs _ h))⟩
    · have e1 := congrArg List.length hra.keys
      simp only [List.length_map] at e1
      (first | lia | omega)
    · intro D2 o2 h2 tk2 F2 N2 lt2 hs2 hd2
      clear F1 N1
      k_sweep
      k_extra "mine steps"
      refine hret _ ((D2, o2) :: (D1, _) :: (x ++ news)) _ _ (by k_asm) (by k_asm) ⟨(D2, o2) :: (D1, _) :: x, rfl, ?_, D2, o2, rows, rfl, List.mem_cons_self, hs2, hd2, hra.mono (by k_extra "mine sub")⟩
      exact Apart.cons (fun q hq => Nat.ne_of_lt (lt2 q (List.mem_cons_of_mem _ (List.mem_append_right _ hq)))) (Apart.cons (fun q hq => off1_ne o1 q (List.mem_append_right _ hq)) hx)
  · rintro i v ys nx hi9 hv ⟨x, rfl, hx9, ha⟩
    obtain ⟨k, y, hk⟩ : ∃ k y, l[i]? = some (k, y) := by
      have : i < l.length := by simp at hi9; (first | lia | omega)
      exact ⟨_, _, List.getElem?_eq_getElem this⟩
    obtain ⟨q, t, u, hv2, hq, hu2⟩ := hi.at hk
    obtain rfl : v = .ref q := by simp [hv2] at hv; exact hv.symm
    refine ⟨q, _, .int k t, u, _, rfl, List.mem_append_right _ (hs _ hq), rfl, rfl, ?_⟩
    intro I oI C oC D m₂ h tk E' hC hx hy F N off ne
    clear F' N'
    have hu3 : PVal news u y := hu2.mono hs
    k_sweep
    k_extra "mine steps"
    rename_i D1 h1 l1 D2 h2 F2 N2 l2
    refine ⟨(D2, _) :: (D1, _) :: x, rfl, ?_, ?_⟩
    · have a1 : AllLt D1 (x ++ news) := by grind only
      have a2 : AllLt D2 (x ++ news) := by grind only
      exact Apart.cons (fun q hq => allLt_ne' a2 q (List.mem_append_right _ hq)) (Apart.cons (fun q hq => allLt_ne' a1 q (List.mem_append_right _ hq)) hx9)
    · rw [List.take_add_one, hk]
      refine AllAre.snoc (ha.mono (by k_extra "mine sub")) (t := t) (v := .ref D1) List.mem_cons_self ⟨D1, u, rfl, List.mem_cons_of_mem _ List.mem_cons_self, hu2.mono (by k_extra "mine sub")⟩
end
end TH6

section TW1
open PySem PySem.W PyProof.Rows PySem.Calls PySem.Spec
set_option maxRecDepth 100000
set_option maxHeartbeats 2000000

/-- a def under which the store of nodes may grow -/
noncomputable def FnS (prog : Program) (w : World) (need : Nat) (f : Addr) (vs : List Value) (R S : Led) (tr dtr : Addr) (Post : Value → St → Prop) : Prop :=
  ∀ (A : Around) (dp un : Nat) (h₀ : Heap) (L : Addr) (m : Str → Option Value) (hp : Heap) (gn : Array GenState) (dr : Drawn) (tk : Nat) (os : OsState)
    (Q E : Value → Shared → Prop),
    Site w A dp un h₀ L → Fr h₀ L hp m → News h₀ L hp (R ++ S) → dp + need < recursionLimit → un + 8 * need < cLine →
    (∀ r S' σ' h' tk', Fr h₀ L h' m → News h₀ L h' (R ++ S') → Dj R S' → Rep w.params tr dtr S' σ' → Post r σ' → Q r ⟨h', gn, dr, tk', os⟩) →
    wpAny (model prog w) A (call (.ref f) vs) Q E ⟨hp, gn, dr, tk, os⟩
theorem lnj35 : True := by
  (k_with "off j18" => skip)
  trivial
theorem FnS.use {prog : Program} {w : World} {need : Nat} {f : Addr} {vs : List Value} {R S : Led} {tr dtr : Addr} {Post : Value → St → Prop} (C : FnS prog w need f vs R S tr dtr Post)
    {A : Around} {dp un : Nat} {h₀ : Heap} {L : Addr} {m : Str → Option Value} {hp : Heap} {gn : Array GenState} {dr : Drawn} {tk : Nat} {os : OsState}
    {Q E : Value → Shared → Prop} (S₀ : Site w A dp un h₀ L) (F : Fr h₀ L hp m) (N : News h₀ L hp (R ++ S)) (hd : dp + need < recursionLimit) (hu : un + 8 * need < cLine)
    (ret : ∀ r S' σ' h' tk', Fr h₀ L h' m → News h₀ L h' (R ++ S') → Dj R S' → Rep w.params tr dtr S' σ' → Post r σ' → Q r ⟨h', gn, dr, tk', os⟩) :
    wpAny (model prog w) A (call (.ref f) vs) Q E ⟨hp, gn, dr, tk, os⟩ := C _ _ _ _ _ _ _ _ _ _ _ _ _ S₀ F N hd hu ret

theorem FnS.intro {prog : Program} {w : World} {need : Nat} {f : Addr} {vs : List Value} {R S : Led} {tr dtr : Addr} {Post : Value → St → Prop}
    (C : ∀ (p : Program) (loose : List Str) (mean : ExcName → Option Value) (mg mb : Str → Option Value) (dp un : Nat) (gd : Option (List Code)) (cn : Str) (cs : Scope) (a : Addr) (ccd : Value) (cl : List (Str × Addr)) (outer : List Env) (A₀ : Around) (base h₀ : Heap) (L : Addr) (m : Str → Option Value) (hp : Heap) (gn : Array GenState) (dr : Drawn) (tk : Nat) (os : OsState)
      (Q E : Value → Shared → Prop), Below A₀ base outer h₀ → (Mine.K0 w.params).In h₀ → Top p loose mean mg mb h₀ → cs.kind = .function → Fr h₀ L hp m → News h₀ L hp (R ++ S) → dp + need < recursionLimit → un + 8 * need < cLine →
      (∀ r S' σ' h' tk', Fr h₀ L h' m → News h₀ L h' (R ++ S') → Dj R S' → Rep w.params tr dtr S' σ' → Post r σ' → Q r ⟨h', gn, dr, tk', os⟩) → wpAny (model prog w) (ktrTop dp un gd cn cs L a ccd cl outer) (call (.ref f) vs) Q E ⟨hp, gn, dr, tk, os⟩) : FnS prog w need f vs R S tr dtr Post := by
  intro A dp un h₀ L m hp gn dr tk os Q E S F N hd hu ret
  cases S with
  | mk B X T hk => exact C _ _ _ _ _ _ _ _ _ _ _ _ _ _ _ _ _ _ _ _ _ _ _ _ _ _ B X T hk F N hd hu ret
theorem Rep.new {P : Params} {tr dtr x dx : Addr} {R S : Led} {σ : St} {t0 t1 t2 t3 t4 t5 : Tok} {n : Node} (G : Rep P tr dtr S σ) (h1 : ∀ p ∈ R ++ S, p.1 < dx) (hd : n.d = dx) :
    Rep P tr dtr ((x, instObj 38 dx) :: (dx, nodeDict P t0 t1 t2 t3 t4 t5 n) :: S) (σ.set x n) := by
  subst hd
  have up : ∀ p ∈ S, p ∈ (x, instObj 38 n.d) :: (n.d, nodeDict P t0 t1 t2 t3 t4 t5 n) :: S := fun p hp => List.mem_cons_of_mem _ (List.mem_cons_of_mem _ hp)
  have lt : ∀ b m, σ.nd b = some m → m.d < n.d := fun b m hm => by
    obtain ⟨_, u0, u1, u2, u3, u4, u5, hdict⟩ := G.nodes b m hm
    exact h1 _ (List.mem_append_right _ hdict)
  have ltr : dtr < n.d := by
    obtain ⟨_, t, td⟩ := G.tree
    exact h1 _ (List.mem_append_right _ td)
  refine ⟨fun b m hb => ?_, fun b c m m' hb hc he => ?_, fun b m hb => ?_, HasRoot.mono G.tree up⟩
  · simp only [St.set] at hb
    by_cases hbx : b = x
    · rw [if_pos hbx] at hb
      cases hb
      subst hbx
      exact ⟨List.mem_cons_self, _, _, _, _, _, _, List.mem_cons_of_mem _ List.mem_cons_self⟩
    · rw [if_neg hbx] at hb
      exact HasNode.mono (G.nodes b m hb) up
  · simp only [St.set] at hb hc
    by_cases hbx : b = x
    · by_cases hcx : c = x
      · rw [hbx, hcx]
      · rw [if_pos hbx] at hb
        rw [if_neg hcx] at hc
        cases hb
        exact absurd (lt c m' hc) (he ▸ Nat.lt_irrefl _)
    · rw [if_neg hbx] at hb
      by_cases hcx : c = x
      · rw [if_pos hcx] at hc
        cases hc
        exact absurd (lt b m hb) (he ▸ Nat.lt_irrefl _)
      · rw [if_neg hcx] at hc
        exact G.inj b c m m' hb hc he
  · simp only [St.set] at hb
    by_cases hbx : b = x
    · rw [if_pos hbx] at hb
      cases hb
      exact Ne.symm (Nat.ne_of_lt ltr)
    · rw [if_neg hbx] at hb
      exact G.apart b m hb
theorem Rep.lt {P : Params} {tr dtr dx : Addr} {R S : Led} {σ : St} (G : Rep P tr dtr S σ) (h1 : ∀ p ∈ R ++ S, p.1 < dx) {b : Addr} {m : Node} (hb : σ.nd b = some m) : b < dx := h1 _ (List.mem_append_right _ (G.nodes b m hb).inst)
theorem Tr.set {σ : St} {io : List It} {x : Addr} {n : Node} (h : Tr σ io) (hx : ∀ z ∈ io, z.a ≠ x) : Tr (σ.set x n) io := by
  obtain ⟨t, h9, rfl⟩ := h.tree
  exact ⟨t, ⟨h9.ctx, Sub.frame (fun y hy => St.set_ne (hx y hy)) h9.sub, h9.pw⟩, rfl⟩
theorem Tr.has {σ : St} {io : List It} (h : Tr σ io) {z : It} (hz : z ∈ io) : ∃ m, σ.nd z.a = some m := by
  obtain ⟨t, h9, rfl⟩ := h.tree
  exact nd_of_io h9 (List.mem_map.mpr ⟨z, hz, rfl⟩)
theorem News.intoS {h₀ h : Heap} {L : Addr} {c1 c2 : Addr × Obj} {R S : Led} (N : News h₀ L h (c1 :: c2 :: (R ++ S))) : News h₀ L h (R ++ (c1 :: c2 :: S)) := fun p hp => N p (by
  simp only [List.mem_append, List.mem_cons] at hp ⊢
  rcases hp with h | h | h | h
  · exact .inr (.inr (.inl h))
  · exact .inl h
  · exact .inr (.inl h)
  · exact .inr (.inr (.inr h)))
theorem Dj.new {R S : Led} {c1 c2 : Addr × Obj} (j : Dj R S) (h1 : ∀ p ∈ R ++ S, p.1 < c2.1) (hx : @LT.lt Nat _ c2.1 c1.1) : Dj R (c1 :: c2 :: S) := fun p hp => by
  have h2 := h1 p (List.mem_append_left _ hp)
  intro hm
  simp only [List.map_cons, List.mem_cons] at hm
  rcases hm with e | e | hm
  · exact absurd (Nat.lt_trans h2 hx) (e ▸ Nat.lt_irrefl _)
  · exact absurd h2 (e ▸ Nat.lt_irrefl _)
  · exact j p hp hm
section
variable {prog : Program} {w : World} {R S : Led} {tr dtr : Addr} {σ σ' : St}
theorem lnj36 : True := by
  (k_with "call ref#" => ((fail_if_success k_extra "off j19"); (k_here; (with_reducible show wpAny _ _ (call (Value.ref 196) _ _) _ _ _); k_dflt ((first | (refine' FnM.useV (put_behind_ok  ?e_q ?j_q ?G_q) ?S_q ?F_q ?N_q ?hd_q ?hu_q ?_)); (case G_q => k_extra "mine rep"); (case N_q => refine' News.cut ?kN_q ?kC_q; (case kN_q => k_asm); (case kC_q => k_extra "mine cut")); (case j_q => k_extra "mine dj"); (case e_q => with_reducible assumption); (case S_q => first | with_reducible assumption | exact Site.mk (by k_asm) (by k_asm) (by k_asm) (by first | exact rfl | with_reducible assumption)); (case F_q => k_asm); (case hd_q => first | exact room (by with_reducible assumption) rfl | ktr_room); (case hu_q => first | exact unitsL (by with_reducible assumption) rfl | ktr_units); intro S9 h9 tk9 F9 N9 a9 j9 G9; (try simp only [List.cons_append] at N9); (try k_sweep); k_extra "mine sweep"))))
  (k_with "call ref#" => ((fail_if_success k_extra "off j19"); (k_here; (with_reducible show wpAny _ _ (call (Value.ref 175) _ _) _ _ _); k_dflt ((first | (refine' FnR.useV (rightmost_ok  ?g_q ?e_q ?sub_q ) ?S_q ?F_q ?N_q ?hd_q ?hu_q ?_)); (case g_q => k_extra "mine rep"); (case N_q => k_asm); (case e_q => with_reducible assumption); (case sub_q => k_extra "mine sub"); (case S_q => first | with_reducible assumption | exact Site.mk (by k_asm) (by k_asm) (by k_asm) (by first | exact rfl | with_reducible assumption)); (case F_q => k_asm); (case hd_q => first | exact room (by with_reducible assumption) rfl | ktr_room); (case hu_q => first | exact unitsL (by with_reducible assumption) rfl | ktr_units); intro h9 tk9 F9 N9; (try k_sweep)))))
  (k_with "call ref#" => ((fail_if_success k_extra "off j19"); (k_here; (with_reducible show wpAny _ _ (call (Value.ref 84) _ _) _ _ _); k_dflt ((first | (refine' FnR.useI (text_length_ok  ?g_q ?e_q ?sub_q ) ?S_q ?F_q ?N_q ?hd_q ?hu_q ?_)); (case g_q => k_extra "mine rep"); (case N_q => k_asm); (case e_q => with_reducible assumption); (case sub_q => k_extra "mine sub"); (case S_q => first | with_reducible assumption | exact Site.mk (by k_asm) (by k_asm) (by k_asm) (by first | exact rfl | with_reducible assumption)); (case F_q => k_asm); (case hd_q => first | exact room (by with_reducible assumption) rfl | ktr_room); (case hu_q => first | exact unitsL (by with_reducible assumption) rfl | ktr_units); intro h9 tk9 F9 N9 t9; (try k_sweep)))))
  (k_with "call ref#" => ((fail_if_success k_extra "off j19"); (k_here; (with_reducible show wpAny _ _ (call (Value.ref 210) _ _) _ _ _); k_dflt ((first | (refine' FnR.useV (split_at_ok  ?g_q ?e_q ?sub_q ) ?S_q ?F_q ?N_q ?hd_q ?hu_q ?_)); (case g_q => k_extra "mine rep"); (case N_q => k_asm); (case e_q => with_reducible assumption); (case sub_q => k_extra "mine sub"); (case S_q => first | with_reducible assumption | exact Site.mk (by k_asm) (by k_asm) (by k_asm) (by first | exact rfl | with_reducible assumption)); (case F_q => k_asm); (case hd_q => first | exact room (by with_reducible assumption) rfl | ktr_room); (case hu_q => first | exact unitsL (by with_reducible assumption) rfl | ktr_units); intro h9 tk9 F9 N9; (try k_sweep)))))
  trivial
theorem insert_first_ok {at_ many : Int} {ta tm : Tok} {pl : Addr} (G : Rep w.params tr dtr S σ) (j : Dj R S) (hr : σ.root = none) (hm : 0 < many) :
    FnS prog w 8 224 [.ref tr, .int at_ ta, .int many tm, .ref pl] R S tr dtr (fun r σ' => r = .none ∧ ∃ x d, Tr σ' [⟨x, d, many, pl⟩]) := by
  (first | with_reducible refine FnR.intro ?_ | with_reducible refine FnX.intro ?_ | with_reducible refine FnM.intro ?_ | with_reducible refine @Mine.FnS.intro _ _ _ _ _ _ _ _ _ _ ?_)
  intro p loose mean mg mb dp un gd cn cs a9 ccd cl outer A₀ base h₀ L m hp gn dr tk0 os Q E B X T hk F N hd hu hret
  refine enter [(Str.ofString "tree", .ref tr), (Str.ofString "at", .int at_ ta), (Str.ofString "many", .int many tm), (Str.ofString "plist", .ref pl)] B F X N T rfl rfl hk (by k_is) (by k_is) (by ((conv => lhs; whnf); all_goals exact rfl)) (by ((conv => lhs; whnf); all_goals exact rfl)) (by ktr_room) (BindsTo.of_eq rfl) (locs rfl) ?_ rfl rfl rfl (by decide)
  intro g' L' h' FG' F' N' B' X' T'
  (try dsimp only)
  (try k_fold)
  refine fold_A ?_
  intro en9 ak9 hAu9
  have S9 : Site w ak9 (dp + 1) (un + 3) g' L' := Site.mk B' X' T' rfl
  k_extra "mine steps"
  · exfalso; (first | lia | omega)
  refine' FnX.use interval_ok ?S ?F ?N ?hd ?hu ?_
  (case S => with_reducible assumption); (case F => k_asm); (case N => k_asm); (case hd => first | exact room (by with_reducible assumption) rfl | ktr_room); (case hu => first | exact unitsL (by with_reducible assumption) rfl | ktr_units)
  rintro _ _ h9 tk9 F9 N9 ⟨x, d, t0, t1, t2, t3, t4, t5, rfl, rfl, hlt, hdx⟩
  have N9 := News.intoS N9
  have G9 := Rep.new (x := x) (t0 := t0) (t1 := t1) (t2 := t2) (t3 := t3) (t4 := t4) (t5 := t5) (n := ⟨d, many, pl, none, none, none⟩) G hlt rfl
  have j9 := Dj.new (c1 := (x, instObj 38 d)) (c2 := (d, nodeDict w.params t0 t1 t2 t3 t4 t5 ⟨d, many, pl, none, none, none⟩)) j hlt hdx
  have hr9 : (σ.set x ⟨d, many, pl, none, none, none⟩).root = none := hr
  have hT : Tr ((σ.set x ⟨d, many, pl, none, none, none⟩).withRoot (some x)) [⟨x, d, many, pl⟩] := Tr.single (y := ⟨x, d, many, pl⟩) St.set_eq
  clear G j N hr
  (try dsimp only)
  k_sweep
  k_extra "mine steps"
  all_goals exact hret _ _ _ _ _ (by k_asm) (by k_extra "mine drop") (by with_reducible assumption) (by with_reducible assumption) ⟨rfl, x, d, hT⟩
theorem insert_next_ok {k many : Int} {ta tm : Tok} {pl : Addr} {pre : List It} {y : It} (G : Rep w.params tr dtr S σ) (j : Dj R S) (hT : Tr σ (pre ++ [y])) (hk0 : owns (pre ++ [y]) = k) (hm : 0 < many) (F0 : ∀ x d, Fit (pre ++ [y] ++ [⟨x, d, many, pl⟩])) :
    FnS prog w 8 224 [.ref tr, .int k ta, .int many tm, .ref pl] R S tr dtr (fun r σ' => r = .none ∧ ∃ x d, Tr σ' (pre ++ [y] ++ [⟨x, d, many, pl⟩])) := by
  (first | with_reducible refine FnR.intro ?_ | with_reducible refine FnX.intro ?_ | with_reducible refine FnM.intro ?_ | with_reducible refine @Mine.FnS.intro _ _ _ _ _ _ _ _ _ _ ?_)
  intro p loose mean mg mb dp un gd cn cs a9 ccd cl outer A₀ base h₀ L m hp gn dr tk0 os Q E B X T hk F N hd hu hret
  refine enter [(Str.ofString "tree", .ref tr), (Str.ofString "at", .int k ta), (Str.ofString "many", .int many tm), (Str.ofString "plist", .ref pl)] B F X N T rfl rfl hk (by k_is) (by k_is) (by ((conv => lhs; whnf); all_goals exact rfl)) (by ((conv => lhs; whnf); all_goals exact rfl)) (by ktr_room) (BindsTo.of_eq rfl) (locs rfl) ?_ rfl rfl rfl (by decide)
  intro g' L' h' FG' F' N' B' X' T'
  (try dsimp only)
  (try k_fold)
  refine fold_A ?_
  intro en9 ak9 hAu9
  have S9 : Site w ak9 (dp + 1) (un + 3) g' L' := Site.mk B' X' T' rfl
  k_extra "mine steps"
  · exfalso; (first | lia | omega)
  refine' FnX.use interval_ok ?S ?F ?N ?hd ?hu ?_
  (case S => with_reducible assumption); (case F => k_asm); (case N => k_asm); (case hd => first | exact room (by with_reducible assumption) rfl | ktr_room); (case hu => first | exact unitsL (by with_reducible assumption) rfl | ktr_units)
  rintro _ _ h9 tk9 F9 N9 ⟨x, d, t0, t1, t2, t3, t4, t5, rfl, rfl, hlt, hdx⟩
  have N9 := News.intoS N9
  have G9 := Rep.new (x := x) (t0 := t0) (t1 := t1) (t2 := t2) (t3 := t3) (t4 := t4) (t5 := t5) (n := ⟨d, many, pl, none, none, none⟩) G hlt rfl
  have j9 := Dj.new (c1 := (x, instObj 38 d)) (c2 := (d, nodeDict w.params t0 t1 t2 t3 t4 t5 ⟨d, many, pl, none, none, none⟩)) j hlt hdx
  have hne : ∀ z ∈ pre ++ [y], z.a ≠ x := fun z hz => by
    obtain ⟨m, hm⟩ := hT.has hz
    exact Nat.ne_of_lt (Nat.lt_trans (G.lt hlt hm) hdx)
  have hT9 : Tr (σ.set x ⟨d, many, pl, none, none, none⟩) (pre ++ [y]) := hT.set hne
  have hF := (F0 x d).cnt
  simp only [List.length_append, List.length_singleton] at hF
  obtain ⟨a, hr9, hrm⟩ := hT9.rightmost (f := 7) (by simp only [List.length_append, List.length_singleton]; (first | lia | omega))
  have htot := hT9.total
  rw [hk0] at htot
  obtain ⟨σ', hpb, hT'⟩ := hT9.behind (y := ⟨x, d, many, pl⟩) (f := 6000000) St.set_eq (F0 x d) hne (Nat.le_refl _)
  clear G j N hT
  (try dsimp only)
  k_sweep
  k_extra "mine steps"
  all_goals first | (exfalso; (first | lia | omega)) | exact hret _ _ _ _ _ (by k_asm) (by k_extra "mine drop") (by with_reducible assumption) (by with_reducible assumption) ⟨rfl, x, d, hT'⟩
end
end TW1

section TW2
open PySem PySem.W PyProof.Rows PySem.Calls PySem.Spec
set_option maxRecDepth 100000
set_option maxHeartbeats 2000000

/-- the TextProps of that tree -/
structure HasProps (P : Params) (T : Led) (props dp tr : Addr) : Prop where
  inst : (props, instObj 353 dp) ∈ T
  dict : ∃ t1, (dp, dictOf [⟨PyData.keyHash P "tree", .str "tree" t1, .ref tr⟩] 1) ∈ T
theorem lnj37 : True := by
  (k_with "off j19" => skip)
  trivial
theorem HasProps.mono {P : Params} {T T' : Led} {props dp tr : Addr} (h : HasProps P T props dp tr) (s : ∀ p ∈ T, p ∈ T') : HasProps P T' props dp tr := by
  obtain ⟨a, t1, b⟩ := h
  exact ⟨s _ a, t1, s _ b⟩
theorem get_tree {prog : Program} {w : World} {A : Around} {E : Value → Shared → Prop} {s : Shared} {h₀ : Heap} {L : Addr} {m : Str → Option Value} {news : Led} {expr : Bool} {Q : Value → Shared → Prop} {props dp tr : Addr} (F : Fr h₀ L s.heap m) (X : (Mine.K0 w.params).In h₀) (N : News h₀ L s.heap news) (H : HasProps w.params news props dp tr)
  (h : Q (.ref tr) { s with toks := s.toks + 1 }) : wpAny (model prog w) A (getAttr (.ref props) (Str.ofString "tree") expr) Q E s := by
  obtain ⟨h1, t1, h2⟩ := H
  exact get_own (attr := none) F X (InstAt.of_news N h1 h2) (by k_is) (by k_is) (by k_is) (by k_is) rfl rfl h
section
variable {prog : Program} {w : World} {R S : Led} {tr dtr props dp : Addr} {σ σ' : St}
theorem lnj38 : True := by
  (k_with "mine rules" => ((fail_if_success k_extra "off j20"); first | with_reducible assumption | exact HasRules.mono (by with_reducible assumption) (by k_extra "mine sub")))
  (k_with "mine props" => ((fail_if_success k_extra "off j20"); first | with_reducible assumption | exact HasProps.mono (by with_reducible assumption) (by k_extra "mine sub")))
  (k_with "getAttr ref#" => ((fail_if_success k_extra "off j20"); (k_here; (with_reducible show wpAny _ _ (getAttr (Value.ref _) (Str.ofString "tree") _) _ _ _); k_dflt (refine' get_tree ?k1_q ?k2_q ?k3_q ?k4_q ?_; (case k1_q => k_asm); (case k2_q => k_asm); (case k3_q => k_asm); (case k4_q => k_extra "mine props")))))
  (k_with "mine units" => ((fail_if_success k_extra "off j20"); (have hcL9 := cLine_is; (try simp only [units_under_make, units_in1, units_deeper, Around.mark_units, units_caller] at *); (try dsimp only [ktrTop] at *); (first | lia | omega))))
  (k_with "getMethod ref#" => ((fail_if_success k_extra "off j20"); (k_here; (with_reducible show wpAny _ _ (getMethod (Value.ref _) (Str.ofString "get") _) _ _ _); k_dflt (refine' kdg_method (knd := PySem.intKind _ _) ?k1_q ?k2_q ?k3_q ?_; (case k1_q => k_asm); (case k2_q => k_mem); (case k3_q => k_asm)))))
  (k_with "call builtin:dict.get#" => ((fail_if_success k_extra "off j20"); (k_here; (with_reducible show wpAny _ _ (call (Value.builtin "dict.get") [Value.ref _, Value.int _ _, _]) _ _ _); k_dflt (refine' kdg_get2 (knd := PySem.intKind _ _) ?k1_q ?k2_q ?k3_q ?k4_q (intKind_is _ _ _ _) (some _) ?k5_q ?_; (case k1_q => k_asm); (case k2_q => k_mem); (case k3_q => k_asm); (case k4_q => k_asm); (case k5_q => rfl); (try dsimp only [Option.getD])))))
  (k_with "call ref#" => ((fail_if_success k_extra "off j21"); (k_here; (with_reducible show wpAny _ _ (call (Value.ref 84) _ _) _ _ _); k_dflt ((first | (refine' FnR.useI (text_length_ok  ?g_q ?e_q ?sub_q ) ?S_q ?F_q ?N_q ?hd_q ?hu_q ?_)); (case g_q => k_extra "mine rep"); (case N_q => k_asm); (case e_q => with_reducible assumption); (case sub_q => k_extra "mine sub"); (case S_q => first | with_reducible assumption | exact Site.mk (by k_asm) (by k_asm) (by k_asm) (by first | exact rfl | with_reducible assumption)); (case F_q => k_asm); (case hd_q => first | exact room (by with_reducible assumption) rfl | ktr_room); (case hu_q => first | exact unitsL (by with_reducible assumption) rfl | ktr_units); intro h9 tk9 F9 N9 t9; (try k_sweep)))))
  (k_with "call ref#" => ((fail_if_success k_extra "off j21"); (k_here; (with_reducible show wpAny _ _ (call (Value.ref 189) _ _) _ _ _); k_dflt ((first | (refine' FnR.useV (preceding_ok  ?g_q ?e_q ?sub_q ) ?S_q ?F_q ?N_q ?hd_q ?hu_q ?_)); (case g_q => k_extra "mine rep"); (case N_q => k_asm); (case e_q => with_reducible assumption); (case sub_q => k_extra "mine sub"); (case S_q => first | with_reducible assumption | exact Site.mk (by k_asm) (by k_asm) (by k_asm) (by first | exact rfl | with_reducible assumption)); (case F_q => k_asm); (case hd_q => first | exact room (by with_reducible assumption) rfl | ktr_room); (case hu_q => first | exact unitsL (by with_reducible assumption) rfl | ktr_units); intro h9 tk9 F9 N9; (try dsimp only [optV]); (try k_sweep)))))
  (k_with "call ref#" => ((fail_if_success k_extra "off j21"); (k_here; (with_reducible show wpAny _ _ (call (Value.ref 77) _ _) _ _ _); k_dflt ((first | (refine' FnR.useI (own_length_ok  ?g_q ?e_q ?sub_q ) ?S_q ?F_q ?N_q ?hd_q ?hu_q ?_)); (case g_q => k_extra "mine rep"); (case N_q => k_asm); (case e_q => with_reducible assumption); (case sub_q => k_extra "mine sub"); (case S_q => first | with_reducible assumption | exact Site.mk (by k_asm) (by k_asm) (by k_asm) (by first | exact rfl | with_reducible assumption)); (case F_q => k_asm); (case hd_q => first | exact room (by with_reducible assumption) rfl | ktr_room); (case hu_q => first | exact unitsL (by with_reducible assumption) rfl | ktr_units); intro h9 tk9 F9 N9 t9; (try k_sweep)))))
  (k_with "call ref#" => ((fail_if_success k_extra "off j21"); (k_here; (with_reducible show wpAny _ _ (call (Value.ref 217) _ _) _ _ _); k_dflt ((first | (refine' FnM.useV (drop_interval_ok  ?e_q ?j_q ?G_q) ?S_q ?F_q ?N_q ?hd_q ?hu_q ?_)); (case G_q => k_extra "mine rep"); (case N_q => refine' News.cut ?kN_q ?kC_q; (case kN_q => k_asm); (case kC_q => k_extra "mine cut")); (case j_q => k_extra "mine dj"); (case e_q => with_reducible assumption); (case S_q => first | with_reducible assumption | exact Site.mk (by k_asm) (by k_asm) (by k_asm) (by first | exact rfl | with_reducible assumption)); (case F_q => k_asm); (case hd_q => first | exact room (by with_reducible assumption) rfl | ktr_room); (case hu_q => first | exact unitsL (by with_reducible assumption) rfl | ktr_units); intro S9 h9 tk9 F9 N9 a9 j9 G9; (try simp only [List.cons_append] at N9); (try k_sweep); k_extra "mine sweep"))))
  (k_with "call ref#" => ((fail_if_success k_extra "off j21"); (k_here; (with_reducible show wpAny _ _ (call (Value.ref 154) _ _) _ _ _); k_dflt ((first | ((with_reducible show wpAny _ _ (call (Value.ref 154) [Value.ref _, _] _) _ _ _); refine' FnM.useV (add_above_ok (v := some _) ?e_q ?j_q ?G_q) ?S_q ?F_q ?N_q ?hd_q ?hu_q ?_) | ((with_reducible show wpAny _ _ (call (Value.ref 154) [Value.none, _] _) _ _ _); refine' FnM.useV (add_above_ok (v := none) ?e_q ?j_q ?G_q) ?S_q ?F_q ?N_q ?hd_q ?hu_q ?_) | (refine' FnM.useV (add_above_ok  ?e_q ?j_q ?G_q) ?S_q ?F_q ?N_q ?hd_q ?hu_q ?_)); (case G_q => k_extra "mine rep"); (case N_q => refine' News.cut ?kN_q ?kC_q; (case kN_q => k_asm); (case kC_q => k_extra "mine cut")); (case j_q => k_extra "mine dj"); (case e_q => with_reducible assumption); (case S_q => first | with_reducible assumption | exact Site.mk (by k_asm) (by k_asm) (by k_asm) (by first | exact rfl | with_reducible assumption)); (case F_q => k_asm); (case hd_q => first | exact room (by with_reducible assumption) rfl | ktr_room); (case hu_q => first | exact unitsL (by with_reducible assumption) rfl | ktr_units); intro S9 h9 tk9 F9 N9 a9 j9 G9; (try simp only [List.cons_append] at N9); (try k_sweep); k_extra "mine sweep"))))
  (k_with "call ref#" => ((fail_if_success k_extra "off j21"); (k_here; (with_reducible show wpAny _ _ (call (Value.ref 147) _ _) _ _ _); k_dflt ((first | ((with_reducible show wpAny _ _ (call (Value.ref 147) [_, Value.ref _] _) _ _ _); refine' FnM.useV (settle_up_ok (v := some _) ?e_q ?j_q ?G_q) ?S_q ?F_q ?N_q ?hd_q ?hu_q ?_) | ((with_reducible show wpAny _ _ (call (Value.ref 147) [_, Value.none] _) _ _ _); refine' FnM.useV (settle_up_ok (v := none) ?e_q ?j_q ?G_q) ?S_q ?F_q ?N_q ?hd_q ?hu_q ?_) | (refine' FnM.useV (settle_up_ok  ?e_q ?j_q ?G_q) ?S_q ?F_q ?N_q ?hd_q ?hu_q ?_)); (case G_q => k_extra "mine rep"); (case N_q => refine' News.cut ?kN_q ?kC_q; (case kN_q => k_asm); (case kC_q => k_extra "mine cut")); (case j_q => k_extra "mine dj"); (case e_q => with_reducible assumption); (case S_q => first | with_reducible assumption | exact Site.mk (by k_asm) (by k_asm) (by k_asm) (by first | exact rfl | with_reducible assumption)); (case F_q => k_asm); (case hd_q => first | exact room (by with_reducible assumption) rfl | ktr_room); (case hu_q => first | exact unitsL (by with_reducible assumption) rfl | ktr_units); intro S9 h9 tk9 F9 N9 a9 j9 G9; (try simp only [List.cons_append] at N9); (try k_sweep); k_extra "mine sweep"))))
  (k_with "call ref#" => ((fail_if_success k_extra "off j21"); (k_here; (with_reducible show wpAny _ _ (call (Value.ref 161) _ _) _ _ _); k_dflt ((refine' FnX.useT (find_interval_ok ?G_q ?hr_q ?e_q ?sub_q) ?S_q ?F_q ?N_q ?hd_q ?hu_q ?_; (case N_q => k_asm); (case G_q => k_extra "mine rep"); (case hr_q => with_reducible assumption); (case e_q => with_reducible assumption); (case sub_q => k_extra "mine sub")); (case S_q => first | with_reducible assumption | exact Site.mk (by k_asm) (by k_asm) (by k_asm) (by first | exact rfl | with_reducible assumption)); (case F_q => k_asm); (case hd_q => first | exact room (by with_reducible assumption) rfl | ktr_room); (case hu_q => first | exact unitsL (by with_reducible assumption) rfl | ktr_units); intro q9 t9 h9 tk9 F9 N9 hl9; (try k_sweep)))))
  (k_with "call ref#" => ((fail_if_success k_extra "off j21"); (k_here; (with_reducible show wpAny _ _ (call (Value.ref 259) _ _) _ _ _); k_dflt ((first | (refine' FnR.useV (same_plist_ok  ?ha_q ?hb_q ?hza_q ?hzb_q ?wa_q ?wb_q) ?S_q ?F_q ?N_q ?hd_q ?hu_q ?_; (case N_q => k_asm); (case ha_q => k_extra "mine pl"); (case hb_q => k_extra "mine pl"); (case hza_q => first | with_reducible assumption | (first | lia | omega)); (case hzb_q => first | with_reducible assumption | (first | lia | omega)); (case wa_q => with_reducible assumption); (case wb_q => with_reducible assumption))); (case S_q => first | with_reducible assumption | exact Site.mk (by k_asm) (by k_asm) (by k_asm) (by first | exact rfl | with_reducible assumption)); (case F_q => k_asm); (case hd_q => first | exact room (by with_reducible assumption) rfl | ktr_room); (case hu_q => first | exact unitsL (by with_reducible assumption) rfl | ktr_units); intro h9 tk9 F9 N9; (try k_sweep)))))
  trivial
theorem join_first_ok {ta : Tok} (G : Rep w.params tr dtr S σ) (j : Dj R S) (hP : HasProps w.params R props dp tr) {io : List It} (hT : Tr σ io) :
    FnS prog w 9 371 [.ref props, .int 0 ta] R S tr dtr (fun r σ' => r = .none ∧ Tr σ' io) := by
  (first | with_reducible refine FnR.intro ?_ | with_reducible refine FnX.intro ?_ | with_reducible refine FnM.intro ?_ | with_reducible refine @Mine.FnS.intro _ _ _ _ _ _ _ _ _ _ ?_)
  intro p loose mean mg mb dp un gd cn cs a9 ccd cl outer A₀ base h₀ L m hp gn dr tk0 os Q E B X T hk F N hd hu hret
  refine enter [(Str.ofString "props", .ref props), (Str.ofString "at", .int 0 ta)] B F X N T rfl rfl hk (by k_is) (by k_is) (by ((conv => lhs; whnf); all_goals exact rfl)) (by ((conv => lhs; whnf); all_goals exact rfl)) (by ktr_room) (BindsTo.of_eq rfl) (locs rfl) ?_ rfl rfl rfl (by decide)
  intro g' L' h' FG' F' N' B' X' T'
  (try dsimp only)
  (try k_fold)
  refine fold_A ?_
  intro en9 ak9 hAu9
  have S9 : Site w ak9 (dp + 1) (un + 3) g' L' := Site.mk B' X' T' rfl
  k_extra "mine steps"
  all_goals exact hret _ _ _ _ _ (by k_asm) (by k_extra "mine drop") j G ⟨rfl, hT⟩
theorem find_unique : ∀ {pre post pre' post' : List It} {x x' : It} {k : Int}, Good (pre ++ x :: post) → pre ++ x :: post = pre' ++ x' :: post' → owns pre ≤ k → k < owns pre + x.own → owns pre' ≤ k → k < owns pre' + x'.own → pre = pre' ∧ x = x' ∧ post = post'
  | [], post, [], post', x, x', k, _, e, _, _, _, _ => by simp at e; exact ⟨rfl, e.1, e.2⟩
  | [], post, c :: p', post', x, x', k, g, e, h1, h2, h3, h4 => by
    simp at e
    obtain ⟨rfl, rfl⟩ := e
    have g2 : Good p' := fun y hy => g y (by simp [hy])
    have := g2.owns
    rw [owns_cons] at h3
    simp only [owns_nil] at h2
    (first | lia | omega)
  | c :: p, post, [], post', x, x', k, g, e, h1, h2, h3, h4 => by
    simp at e
    obtain ⟨rfl, rfl⟩ := e
    have g2 : Good p := fun y hy => g y (by simp [hy])
    have := g2.owns
    rw [owns_cons] at h1
    simp only [owns_nil] at h4
    (first | lia | omega)
  | c :: p, post, c' :: p', post', x, x', k, g, e, h1, h2, h3, h4 => by
    simp at e
    obtain ⟨rfl, e⟩ := e
    rw [owns_cons] at h1 h2 h3 h4
    obtain ⟨r1, r2, r3⟩ := find_unique (k := k - c.own) (fun y hy => g y (List.mem_cons_of_mem _ hy)) e (by (first | lia | omega)) (by (first | lia | omega)) (by (first | lia | omega)) (by (first | lia | omega))
    exact ⟨by rw [r1], r2, r3⟩
theorem Tr.find_at {σ : St} {pre post : List It} {x : It} {k : Int} {f : Nat} (h : Tr σ (pre ++ x :: post)) (g : Good (pre ++ x :: post)) (h0 : owns pre ≤ k) (h1 : k < owns pre + x.own) (hf : (pre ++ x :: post).length ≤ f) :
    ∃ a, σ.root = some a ∧ findF f σ a 0 k = some (x.a, owns pre) := by
  have g1 : Good pre := fun y hy => g y (by simp [hy])
  have g2 : Good post := fun y hy => g y (by simp [hy])
  have g3 := g1.owns
  have g4 := g2.owns
  obtain ⟨a, pre', x', post', hr, e, hf, h2, h3⟩ := h.find (at_ := k) g (by (first | lia | omega)) (by rw [owns_append, owns_cons]; (first | lia | omega)) hf
  obtain ⟨rfl, rfl, rfl⟩ := find_unique g e h0 h1 h2 h3
  exact ⟨a, hr, hf⟩
theorem Tr.node' {σ : St} {pre post : List It} {x : It} (h : Tr σ (pre ++ x :: post)) : ∃ t l r p, σ.nd x.a = some ⟨x.d, t, x.pl, l, r, p⟩ := by
  obtain ⟨C, l, r, h, _⟩ := h.at
  exact ⟨_, _, _, _, h.sub.1⟩
theorem join_same_ok {k : Int} {ta : Tok} {pre : List It} {x y : It} {cx cy : List (Int × PV)} (G : Rep w.params tr dtr S σ) (j : Dj R S) (hP : HasProps w.params R props dp tr) (hT : Tr σ (pre ++ [y] ++ [x])) (hk0 : owns (pre ++ [y]) = k) (F0 : Fit (pre ++ [y] ++ [x]))
    (px : IsPl R x.pl cx) (py : IsPl R y.pl cy) (lx : cx.length ≤ 3) (ly : cy.length ≤ 3) (wx : WfPl cx) (wy : WfPl cy) (hs : samePl cy cx = true) (F1 : Fit (pre ++ [⟨y.a, y.d, y.own + x.own, y.pl⟩])) :
    FnS prog w 17 371 [.ref props, .int k ta] R S tr dtr (fun r σ' => r = .none ∧ Tr σ' (pre ++ [⟨y.a, y.d, y.own + x.own, y.pl⟩])) := by
  have g := F0.good
  have hcnt := F0.cnt
  simp only [List.length_append, List.length_singleton] at hcnt
  have gy : 1 ≤ x.own := g x (by simp)
  have gp : Good (pre ++ [y]) := fun z hz => g z (by simp only [List.mem_append] at hz ⊢; exact .inl hz)
  have gp := gp.owns
  simp only [List.length_append, List.length_singleton] at gp
  have htot := hT.total
  have hown := Tr.own hT
  have e9 : owns (pre ++ [y] ++ [x]) = k + x.own := by rw [owns_append, hk0, owns_cons, owns_nil]; (first | lia | omega)
  rw [e9] at htot
  obtain ⟨a, hr9, hfind⟩ := hT.find_at (k := k) (f := 7) g (by (first | lia | omega)) (by (first | lia | omega)) (by simp only [List.length_append, List.length_singleton]; (first | lia | omega))
  rw [hk0] at hfind
  have hprec := Tr.preceding (f := 7) hT (by simp only [List.length_append, List.length_singleton]; (first | lia | omega))
  have e8 : (pre ++ [y]).getLast?.map It.a = some y.a := by simp
  rw [e8] at hprec
  obtain ⟨_, _, _, _, hnx⟩ := Tr.node' hT
  have e7 : pre ++ [y] ++ [x] = pre ++ y :: [x] := by simp
  obtain ⟨_, _, _, _, hny⟩ := Tr.node' (e7 ▸ hT)
  obtain ⟨σ1, hdrop, hT1⟩ := hT.drop (f := 6000000) ⟨fun z hz => g z (by simp only [List.mem_append] at hz ⊢; exact .inl hz), by have := F0.tot; rw [owns_append, owns_cons, owns_nil] at this; (first | lia | omega), by simp only [List.length_append, List.length_singleton]; (first | lia | omega)⟩ (Nat.le_refl _)
  obtain ⟨σ2, σ3, hab, hsu, hT3⟩ := Tr.grow (m := x.own) (f := 6000000) hT1 F1 (Nat.le_refl _)
  have hkp : 0 < k := by (first | lia | omega)
  have hkl : k < k + x.own := by (first | lia | omega)
  clear F0 F1 hT hT1 g gp e9 hk0 e7 e8
  (first | with_reducible refine FnR.intro ?_ | with_reducible refine FnX.intro ?_ | with_reducible refine FnM.intro ?_ | with_reducible refine @Mine.FnS.intro _ _ _ _ _ _ _ _ _ _ ?_)
  intro p loose mean mg mb dp un gd cn cs a9 ccd cl outer A₀ base h₀ L m hp gn dr tk0 os Q E B X T hk F N hd hu hret
  refine enter [(Str.ofString "props", .ref props), (Str.ofString "at", .int k ta)] B F X N T rfl rfl hk (by k_is) (by k_is) (by ((conv => lhs; whnf); all_goals exact rfl)) (by ((conv => lhs; whnf); all_goals exact rfl)) (by ktr_room) (BindsTo.of_eq rfl) (locs rfl) ?_ rfl rfl rfl (by decide)
  intro g' L' h' FG' F' N' B' X' T'
  (try dsimp only)
  (try k_fold)
  refine fold_A ?_
  intro en9 ak9 hAu9
  have S9 : Site w ak9 (dp + 1) (un + 3) g' L' := Site.mk B' X' T' rfl
  k_extra "mine steps"
  all_goals first | (exfalso; (first | lia | omega)) | exact hret _ _ _ _ _ (by k_asm) (by k_extra "mine drop1") (Dj.tail (by with_reducible assumption)) (by with_reducible assumption) ⟨rfl, hT3⟩
theorem join_diff_ok {k : Int} {ta : Tok} {pre : List It} {x y : It} {cx cy : List (Int × PV)} (G : Rep w.params tr dtr S σ) (j : Dj R S) (hP : HasProps w.params R props dp tr) (hT : Tr σ (pre ++ [y] ++ [x])) (hk0 : owns (pre ++ [y]) = k) (F0 : Fit (pre ++ [y] ++ [x]))
    (px : IsPl R x.pl cx) (py : IsPl R y.pl cy) (lx : cx.length ≤ 3) (ly : cy.length ≤ 3) (wx : WfPl cx) (wy : WfPl cy) (hs : samePl cy cx = false) :
    FnS prog w 17 371 [.ref props, .int k ta] R S tr dtr (fun r σ' => r = .none ∧ Tr σ' (pre ++ [y] ++ [x])) := by
  have g := F0.good
  have hcnt := F0.cnt
  simp only [List.length_append, List.length_singleton] at hcnt
  have gy : 1 ≤ x.own := g x (by simp)
  have gp : Good (pre ++ [y]) := fun z hz => g z (by simp only [List.mem_append] at hz ⊢; exact .inl hz)
  have gp := gp.owns
  simp only [List.length_append, List.length_singleton] at gp
  have htot := hT.total
  have e9 : owns (pre ++ [y] ++ [x]) = k + x.own := by rw [owns_append, hk0, owns_cons, owns_nil]; (first | lia | omega)
  rw [e9] at htot
  obtain ⟨a, hr9, hfind⟩ := hT.find_at (k := k) (f := 7) g (by (first | lia | omega)) (by (first | lia | omega)) (by simp only [List.length_append, List.length_singleton]; (first | lia | omega))
  rw [hk0] at hfind
  have hprec := Tr.preceding (f := 7) hT (by simp only [List.length_append, List.length_singleton]; (first | lia | omega))
  have e8 : (pre ++ [y]).getLast?.map It.a = some y.a := by simp
  rw [e8] at hprec
  obtain ⟨_, _, _, _, hnx⟩ := Tr.node' hT
  have e7 : pre ++ [y] ++ [x] = pre ++ y :: [x] := by simp
  obtain ⟨_, _, _, _, hny⟩ := Tr.node' (e7 ▸ hT)
  have hkp : 0 < k := by (first | lia | omega)
  have hkl : k < k + x.own := by (first | lia | omega)
  have hT3 := hT
  have hG3 := G
  have hj3 := j
  clear F0 hT g gp e9 hk0 e7 e8
  (first | with_reducible refine FnR.intro ?_ | with_reducible refine FnX.intro ?_ | with_reducible refine FnM.intro ?_ | with_reducible refine @Mine.FnS.intro _ _ _ _ _ _ _ _ _ _ ?_)
  intro p loose mean mg mb dp un gd cn cs a9 ccd cl outer A₀ base h₀ L m hp gn dr tk0 os Q E B X T hk F N hd hu hret
  refine enter [(Str.ofString "props", .ref props), (Str.ofString "at", .int k ta)] B F X N T rfl rfl hk (by k_is) (by k_is) (by ((conv => lhs; whnf); all_goals exact rfl)) (by ((conv => lhs; whnf); all_goals exact rfl)) (by ktr_room) (BindsTo.of_eq rfl) (locs rfl) ?_ rfl rfl rfl (by decide)
  intro g' L' h' FG' F' N' B' X' T'
  (try dsimp only)
  (try k_fold)
  refine fold_A ?_
  intro en9 ak9 hAu9
  have S9 : Site w ak9 (dp + 1) (un + 3) g' L' := Site.mk B' X' T' rfl
  k_extra "mine steps"
  all_goals first | (exfalso; (first | lia | omega)) | exact hret _ _ _ _ _ (by k_asm) (by k_extra "mine drop1") hj3 hG3 ⟨rfl, hT3⟩
end
end TW2

section TW3
open PySem PySem.W PyProof.Rows PySem.Calls PySem.Spec
set_option maxRecDepth 100000
set_option maxHeartbeats 2000000

structure Row where
  many : Int
  pl : Addr
  c : List (Int × PV)
structure Row.Ok (T : Led) (r : Row) : Prop where
  lo : 1 ≤ r.many
  hi : r.many ≤ 3
  pl : IsPl T r.pl r.c
  wf : WfPl r.c
  cn : Canon r.c
  len : r.c.length ≤ 3
theorem lnj39 : True := by
  (k_with "off j21" => skip)
  (k_with "off j20" => skip)
  trivial
theorem Row.Ok.mono {T T' : Led} {r : Row} (h : r.Ok T) (s : ∀ p ∈ T, p ∈ T') : r.Ok T' := ⟨h.lo, h.hi, h.pl.mono s, h.wf, h.cn, h.len⟩
inductive RowItems (T : Led) : List Value → List Row → Prop
  | nil : RowItems T [] []
  | cons {vs : List Value} {l : List Row} {r : Row} {q : Addr} {t : Tok} : (q, tupObj [.int r.many t, .ref r.pl]) ∈ T → r.Ok T → RowItems T vs l → RowItems T (.ref q :: vs) (r :: l)
theorem RowItems.mono {T T' : Led} {vs : List Value} {l : List Row} (h : RowItems T vs l) (s : ∀ p ∈ T, p ∈ T') : RowItems T' vs l := by
  induction h with
  | nil => exact .nil
  | cons hm ho _ ih => exact .cons (s _ hm) (ho.mono s) ih
noncomputable def expR (l : List Row) : List (List (Int × PV)) := l.flatMap fun r => List.replicate r.many.toNat r.c
noncomputable def expI (l : List (It × List (Int × PV))) : List (List (Int × PV)) := l.flatMap fun x => List.replicate x.1.own.toNat x.2
noncomputable def sumR (l : List Row) : Int := (l.map Row.many).sum
section
variable {prog : Program} {w : World} {R : Led}
theorem lnj40 : True := by
  (k_with "mine rules" => ((fail_if_success k_extra "off j22"); first | with_reducible assumption | exact HasRules.mono (by with_reducible assumption) (by k_extra "mine sub")))
  (k_with "mine props" => ((fail_if_success k_extra "off j22"); first | with_reducible assumption | exact HasProps.mono (by with_reducible assumption) (by k_extra "mine sub")))
  (k_with "getAttr ref#" => ((fail_if_success k_extra "off j22"); (k_here; (with_reducible show wpAny _ _ (getAttr (Value.ref _) (Str.ofString "tree") _) _ _ _); k_dflt (refine' get_tree ?k1_q ?k2_q ?k3_q ?k4_q ?_; (case k1_q => k_asm); (case k2_q => k_asm); (case k3_q => k_asm); (case k4_q => k_extra "mine props")))))
  (k_with "mine units" => ((fail_if_success k_extra "off j22"); (have hcL9 := cLine_is; (try simp only [units_under_make, units_in1, units_deeper, Around.mark_units, units_caller] at *); (try dsimp only [ktrTop] at *); omega)))
  (k_with "getMethod ref#" => ((fail_if_success k_extra "off j22"); (k_here; (with_reducible show wpAny _ _ (getMethod (Value.ref _) (Str.ofString "get") _) _ _ _); k_dflt (refine' kdg_method (knd := PySem.intKind _ _) ?k1_q ?k2_q ?k3_q ?_; (case k1_q => k_asm); (case k2_q => k_mem); (case k3_q => k_asm)))))
  (k_with "call builtin:dict.get#" => ((fail_if_success k_extra "off j22"); (k_here; (with_reducible show wpAny _ _ (call (Value.builtin "dict.get") [Value.ref _, Value.int _ _, _]) _ _ _); k_dflt (refine' kdg_get2 (knd := PySem.intKind _ _) ?k1_q ?k2_q ?k3_q ?k4_q (intKind_is _ _ _ _) (some _) ?k5_q ?_; (case k1_q => k_asm); (case k2_q => k_mem); (case k3_q => k_asm); (case k4_q => k_asm); (case k5_q => rfl); (try dsimp only [Option.getD])))))
  trivial
theorem tree_ok {pl : Addr} {t : Tok} {news : Led} : FnX prog w 2 59 [.int 0 t, .ref pl] news (fun r news' => ∃ tr dtr t1, r = .ref tr ∧ news' = (tr, instObj 59 dtr) :: (dtr, rootDict w.params t1 none) :: news ∧ (∀ p ∈ news, p.1 < dtr) ∧ @LT.lt Nat _ dtr tr) := by
  (first | with_reducible refine FnR.intro ?_ | with_reducible refine FnX.intro ?_ | with_reducible refine FnM.intro ?_ | with_reducible refine @Mine.FnS.intro _ _ _ _ _ _ _ _ _ _ ?_)
  intro p loose mean mg mb dp un gd cn cs a9 ccd cl outer A₀ base h₀ L m hp gn dr tk0 os Q E B X T hk F N hd hu hret
  k_dflt (refine' call_cls ?k1 ?k2 ?k3 ?k4 ?k5 ?k6 ?_; (case k1 => k_asm); (case k2 => k_asm); (case k3 => k_asm); (case k4 => k_is); (case k5 => k_is); (case k6 => k_is); k_whole; intro x' d' h' F' N' l1 l2; k_lt2 l2)
  k_dflt ktr_enter
  refine wpAny_mono ?_ (fun _ _ x => x) (fun _ _ (x : False) => x.elim)
  k_extra "mine steps"
  exact hret _ _ _ _ (by k_asm) (by k_asm) ⟨_, _, _, rfl, rfl, by with_reducible assumption, by with_reducible assumption⟩
theorem lnj41 : True := by
  (k_with "call ref#" => ((fail_if_success k_extra "off j23"); (k_here; (with_reducible show wpAny _ _ (call (Value.ref 59) _ _) _ _ _); k_dflt ((refine' FnX.use (tree_ok ) ?S_q ?F_q ?N_q ?hd_q ?hu_q ?_; (case N_q => k_asm); ); (case S_q => first | with_reducible assumption | exact Site.mk (by k_asm) (by k_asm) (by k_asm) (by first | exact rfl | with_reducible assumption)); (case F_q => k_asm); (case hd_q => first | exact room (by with_reducible assumption) rfl | ktr_room); (case hu_q => first | exact unitsL (by with_reducible assumption) rfl | ktr_units); intro r9 nw9 h9 tk9 F9 N9 post9; obtain ⟨tr9, dtr9, tt9, er9, en9, hl9, hl8⟩ := post9; subst er9; subst en9; (try k_lt hl9); (try dsimp only); (try k_sweep)))))
  trivial
theorem text_props_ok {t : Tok} {news : Led} : FnX prog w 4 353 [.int 0 t] news (fun r news' => ∃ props dp tr dtr t1 x, r = .ref props ∧ news' = (tr, instObj 59 dtr) :: (dtr, rootDict w.params t1 none) :: (x ++ news) ∧ HasProps w.params x props dp tr ∧ Newer x news ∧ (∀ p ∈ x ++ news, p.1 < dtr) ∧ @LT.lt Nat _ dtr tr) := by
  (first | with_reducible refine FnR.intro ?_ | with_reducible refine FnX.intro ?_ | with_reducible refine FnM.intro ?_ | with_reducible refine @Mine.FnS.intro _ _ _ _ _ _ _ _ _ _ ?_)
  intro p loose mean mg mb dp un gd cn cs a9 ccd cl outer A₀ base h₀ L m hp gn dr tk0 os Q E B X T hk F N hd hu hret
  k_dflt (refine' call_cls ?k1 ?k2 ?k3 ?k4 ?k5 ?k6 ?_; (case k1 => k_asm); (case k2 => k_asm); (case k3 => k_asm); (case k4 => k_is); (case k5 => k_is); (case k6 => k_is); k_whole; intro x' d' h' F' N' l1 l2; k_lt2 l2)
  have l3 := l1
  k_dflt ktr_enter
  refine wpAny_mono ?_ (fun _ _ x => x) (fun _ _ (x : False) => x.elim)
  k_extra "mine steps"
  refine hret _ _ _ _ (by k_asm) (by k_asm) ⟨x', d', tr9, dtr9, tt9, [_, _, _], rfl, rfl, ⟨List.mem_cons_of_mem _ List.mem_cons_self, _, List.mem_cons_of_mem _ (List.mem_cons_of_mem _ List.mem_cons_self)⟩, Newer.cons (by grind only) (Newer.cons (allLt_of fun p hp => Nat.lt_trans (l3 p hp) l2) (Newer.cons (allLt_of l3) Newer.nil)), ?_, by with_reducible assumption⟩
  intro p hp
  have all : ∀ {l : Led}, AllLt dtr9 l → ∀ p ∈ l, p.1 < dtr9 := by
    intro l
    induction l with
    | nil => intro _ p hp; cases hp
    | cons c l ih =>
      intro h p hp
      rcases List.mem_cons.mp hp with rfl | hp
      · exact h.1
      · exact ih h.2 p hp
  exact all (l := [_, _, _] ++ news) (by assumption) p hp
noncomputable def St0 : St := ⟨none, fun _ => none⟩
theorem Rep.zero {P : Params} {tr dtr : Addr} {t1 : Tok} : Rep P tr dtr [(tr, instObj 59 dtr), (dtr, rootDict P t1 none)] St0 :=
  ⟨fun a n h => absurd h (by simp [St0]), fun a b n m h => absurd h (by simp [St0]), fun a n h => absurd h (by simp [St0]), ⟨List.mem_cons_self, t1, List.mem_cons_of_mem _ List.mem_cons_self⟩⟩
theorem Dj.zero {R : Led} {tr dtr : Addr} {o1 o2 : Obj} (h : ∀ p ∈ R, p.1 < dtr) (h2 : @LT.lt Nat _ dtr tr) : Dj R [(tr, o1), (dtr, o2)] := fun p hp hm => by
  have h3 := h p hp
  simp only [List.map_cons, List.map_nil, List.mem_cons, List.not_mem_nil, or_false] at hm
  rcases hm with e | e
  · exact absurd (Nat.lt_trans h3 h2) (e ▸ Nat.lt_irrefl _)
  · exact absurd h3 (e ▸ Nat.lt_irrefl _)
theorem News.zero {h₀ h : Heap} {L : Addr} {c1 c2 : Addr × Obj} {R : Led} (N : News h₀ L h (c1 :: c2 :: R)) : News h₀ L h (R ++ [c1, c2]) := fun p hp => N p (by
  simp only [List.mem_append, List.mem_cons, List.not_mem_nil, or_false] at hp ⊢
  rcases hp with h | h | h
  · exact .inr (.inr h)
  · exact .inl h
  · exact .inr (.inl h))
end
end TW3

section TW4
open PySem PySem.W PyProof.Rows PySem.Calls PySem.Spec
set_option maxRecDepth 100000
set_option maxHeartbeats 2000000

noncomputable abbrev Pl := List (Int × PV)
noncomputable abbrev Ioc := List (It × Pl)
noncomputable def IoOk (R : Led) (l : Ioc) : Prop := ∀ p ∈ l, IsPl R p.1.pl p.2 ∧ WfPl p.2 ∧ Canon p.2 ∧ p.2.length ≤ 3
theorem lnj42 : True := by
  (k_with "off j23" => skip)
  (k_with "off j22" => skip)
  trivial
theorem IoOk.mono {R R' : Led} {l : Ioc} (h : IoOk R l) (s : ∀ p ∈ R, p ∈ R') : IoOk R' l := fun p hp => ⟨(h p hp).1.mono s, (h p hp).2⟩
theorem canon_sub : ∀ {a b : Pl}, Canon a → Canon b → (∀ p ∈ a, p ∈ b) → a.length ≤ b.length
  | [], _, _, _, _ => Nat.zero_le _
  | p :: a, [], _, _, h => absurd (h p (by simp)) (by simp)
  | p :: a, q :: b, ca, cb, h => by
    have ca' := List.pairwise_cons.mp ca
    have cb' := List.pairwise_cons.mp cb
    rcases List.mem_cons.mp (h p (by simp)) with e | hp
    · have := canon_sub ca'.2 cb'.2 fun z hz => by
        rcases List.mem_cons.mp (h z (List.mem_cons_of_mem _ hz)) with e2 | h2
        · have := ca'.1 z hz
          rw [e, e2] at this
          exact absurd this (Int.lt_irrefl _)
        · exact h2
      simp only [List.length_cons]
      (first | lia | omega)
    · have := canon_sub ca cb'.2 fun z hz => by
        rcases List.mem_cons.mp (h z hz) with e2 | h2
        · have h3 := cb'.1 p hp
          rcases List.mem_cons.mp hz with e4 | h4
          · rw [← e4, e2] at h3; exact absurd h3 (Int.lt_irrefl _)
          · have h5 := ca'.1 z h4
            rw [e2] at h5
            exact absurd (Int.lt_trans h3 h5) (Int.lt_irrefl _)
        · exact h2
      simp only [List.length_cons] at this ⊢
      (first | lia | omega)
theorem canon_eq : ∀ {a b : Pl}, Canon a → Canon b → (∀ p ∈ a, p ∈ b) → a.length = b.length → a = b
  | [], [], _, _, _, _ => rfl
  | [], q :: b, _, _, _, h => by simp at h
  | p :: a, [], _, _, h, _ => absurd (h p (by simp)) (by simp)
  | p :: a, q :: b, ca, cb, h, hl => by
    have ca' := List.pairwise_cons.mp ca
    have cb' := List.pairwise_cons.mp cb
    rcases List.mem_cons.mp (h p (by simp)) with e | hp
    · subst e
      rw [canon_eq ca'.2 cb'.2 (fun z hz => by
        rcases List.mem_cons.mp (h z (List.mem_cons_of_mem _ hz)) with e2 | h2
        · have := ca'.1 z hz
          rw [e2] at this
          exact absurd this (Int.lt_irrefl _)
        · exact h2) (by simpa using hl)]
    · have := canon_sub ca cb'.2 fun z hz => by
        rcases List.mem_cons.mp (h z hz) with e2 | h2
        · have h3 := cb'.1 p hp
          rcases List.mem_cons.mp hz with e4 | h4
          · rw [← e4, e2] at h3; exact absurd h3 (Int.lt_irrefl _)
          · have h5 := ca'.1 z h4
            rw [e2] at h5
            exact absurd (Int.lt_trans h3 h5) (Int.lt_irrefl _)
        · exact h2
      simp only [List.length_cons] at this hl
      (first | lia | omega)
theorem plGet_mem : ∀ {l : Pl} {k : Int} {x : PV}, plGet l k = some x → (k, x) ∈ l
  | [], _, _, h => by cases h
  | (j, y) :: l, k, x, h => by
    simp only [plGet] at h
    split at h
    · rename_i e
      cases h
      simp [e]
    · exact List.mem_cons_of_mem _ (plGet_mem h)
theorem samePl_eq {a b : Pl} (ca : Canon a) (cb : Canon b) (h : samePl a b = true) : a = b := by
  simp only [samePl, Bool.and_eq_true, decide_eq_true_eq, List.all_eq_true] at h
  refine canon_eq ca cb (fun p hp => ?_) h.1
  have := h.2 p hp
  unfold holdsP at this
  split at this
  · cases this
  · rename_i x hx
    have e : x = p.2 := by simpa [pvEq] using this
    subst e
    exact plGet_mem hx
theorem RowItems.ok {T : Led} {vs : List Value} {l : List Row} (h : RowItems T vs l) : ∀ r ∈ l, r.Ok T := by
  induction h with
  | nil => intro r hr; cases hr
  | cons _ ho _ ih =>
    intro r hr
    rcases List.mem_cons.mp hr with rfl | hr
    · exact ho
    · exact ih r hr
theorem sumR_append (a b : List Row) : sumR (a ++ b) = sumR a + sumR b := by simp [sumR]
theorem sumR_le {l : List Row} (h : ∀ r ∈ l, 1 ≤ r.many ∧ r.many ≤ 3) : (l.length : Int) ≤ sumR l ∧ sumR l ≤ 3 * (l.length : Int) := by
  induction l with
  | nil => simp [sumR]
  | cons r l ih =>
    have h1 := h r (by simp)
    have h2 := ih fun r hr => h r (List.mem_cons_of_mem _ hr)
    simp only [sumR, List.map_cons, List.sum_cons, List.length_cons] at h2 ⊢
    (first | lia | omega)
theorem expI_append (a b : Ioc) : expI (a ++ b) = expI a ++ expI b := by simp [expI]
theorem expR_append (a b : List Row) : expR (a ++ b) = expR a ++ expR b := by simp [expR]
theorem Dj.cons1 {R S : Led} {I : Addr} {o : Obj} (h : ∀ p ∈ S, p.1 ≠ I) (j : Dj R S) : Dj ((I, o) :: R) S := fun p hp hm => by
  rcases List.mem_cons.mp hp with rfl | hp
  · obtain ⟨q, hq, e⟩ := List.mem_map.mp hm
    exact h q hq e
  · exact j p hp hm
theorem Dj.ne {R S : Led} {p : Addr × Obj} (j : Dj R S) (hp : p ∈ R) : ∀ q ∈ S, q.1 ≠ p.1 := fun q hq e => j p hp (List.mem_map.mpr ⟨q, hq, e⟩)
/-- how far the rows are in -/
structure Prog (R : Led) (σ : St) (ioc : Ioc) (done : List Row) : Prop where
  tree : (done = [] ∧ ioc = [] ∧ σ.root = none) ∨ (ioc ≠ [] ∧ Tr σ (ioc.map (·.1)))
  ok : IoOk R ioc
  good : Good (ioc.map (·.1))
  owns : owns (ioc.map (·.1)) = sumR done
  len : ioc.length ≤ done.length
  exp : expI ioc = expR done
theorem Prog.zero {R : Led} : Prog R St0 [] [] := ⟨.inl ⟨rfl, rfl, rfl⟩, (fun p hp => nomatch hp), (fun p hp => nomatch hp), rfl, Nat.le_refl _, rfl⟩
theorem Prog.first {R : Led} {σ : St} {r : Row} {x d : Addr} (h : Tr σ [⟨x, d, r.many, r.pl⟩]) (ok : r.Ok R) : Prog R σ [(⟨x, d, r.many, r.pl⟩, r.c)] [r] :=
  ⟨.inr ⟨by simp, h⟩, (fun p hp => by rw [List.mem_singleton.mp hp]; exact ⟨ok.pl, ok.wf, ok.cn, ok.len⟩), (fun p hp => by rw [List.mem_singleton.mp hp]; exact ok.lo), by simp [Mine.owns, sumR], by simp, by simp [expI, expR]⟩
theorem Prog.fit {R : Led} {σ : St} {ioc : Ioc} {done : List Row} (P : Prog R σ ioc done) {r : Row} (ok : r.Ok R) (hd : ∀ r ∈ done, 1 ≤ r.many ∧ r.many ≤ 3) (hl : done.length + 1 ≤ 6) (x d : Addr) : Fit (ioc.map (·.1) ++ [⟨x, d, r.many, r.pl⟩]) := by
  have h1 := sumR_le hd
  have h2 := P.len
  have h3 := ok.hi
  refine ⟨fun z hz => ?_, ?_, ?_⟩
  · rcases List.mem_append.mp hz with hz | hz
    · exact P.good z hz
    · rw [List.mem_singleton.mp hz]; exact ok.lo
  · rw [owns_append, P.owns, owns_cons, owns_nil]
    dsimp only
    (first | lia | omega)
  · simp only [List.length_append, List.length_map, List.length_singleton]
    (first | lia | omega)
theorem snoc_of {α : Type} {l : List α} (h : l ≠ []) : ∃ a b, l = a ++ [b] := ⟨l.dropLast, l.getLast h, (List.dropLast_concat_getLast h).symm⟩
theorem Prog.next {R : Led} {σ : St} {ioc : Ioc} {done : List Row} (P : Prog R σ ioc done) {r : Row} (ok : r.Ok R) {σ' : St} {x d : Addr} (h : Tr σ' (ioc.map (·.1) ++ [⟨x, d, r.many, r.pl⟩])) : Prog R σ' (ioc ++ [(⟨x, d, r.many, r.pl⟩, r.c)]) (done ++ [r]) := by
  refine ⟨.inr ⟨by simp, by simpa using h⟩, fun p hp => ?_, fun z hz => ?_, ?_, ?_, ?_⟩
  · rcases List.mem_append.mp hp with hp | hp
    · exact P.ok p hp
    · rw [List.mem_singleton.mp hp]; exact ⟨ok.pl, ok.wf, ok.cn, ok.len⟩
  · simp only [List.map_append, List.map_cons, List.map_nil] at hz
    rcases List.mem_append.mp hz with hz | hz
    · exact P.good z hz
    · rw [List.mem_singleton.mp hz]; exact ok.lo
  · rw [List.map_append, owns_append, P.owns, sumR_append]
    simp [Mine.owns, sumR]
  · simp only [List.length_append, List.length_singleton]
    have := P.len
    (first | lia | omega)
  · rw [expI_append, expR_append, P.exp]
    simp [expI, expR]
theorem Prog.same {R : Led} {σ : St} {ioc : Ioc} {y : It} {done : List Row} {r : Row} (P : Prog R σ (ioc ++ [(y, r.c)]) done) (ok : r.Ok R) {σ' : St} (h : Tr σ' (ioc.map (·.1) ++ [⟨y.a, y.d, y.own + r.many, y.pl⟩])) : Prog R σ' (ioc ++ [(⟨y.a, y.d, y.own + r.many, y.pl⟩, r.c)]) (done ++ [r]) := by
  have gy : 1 ≤ y.own := P.good y (by simp)
  have gr := ok.lo
  refine ⟨.inr ⟨by simp, by simpa using h⟩, fun p hp => ?_, fun z hz => ?_, ?_, ?_, ?_⟩
  · rcases List.mem_append.mp hp with hp | hp
    · exact P.ok p (List.mem_append_left _ hp)
    · have := P.ok (y, r.c) (by simp)
      rw [List.mem_singleton.mp hp]; exact this
  · simp only [List.map_append, List.map_cons, List.map_nil] at hz
    rcases List.mem_append.mp hz with hz | hz
    · exact P.good z (by simp only [List.map_append]; exact List.mem_append_left _ hz)
    · rw [List.mem_singleton.mp hz]
      show 1 ≤ y.own + r.many
      (first | lia | omega)
  · have := P.owns
    rw [List.map_append, owns_append] at this ⊢
    rw [sumR_append, ← this]
    simp [Mine.owns, sumR]
    (first | lia | omega)
  · have := P.len
    simp only [List.length_append, List.length_singleton] at this ⊢
    (first | lia | omega)
  · rw [expR_append, ← P.exp, expI_append, expI_append]
    have e : (y.own + r.many).toNat = y.own.toNat + r.many.toNat := by (first | lia | omega)
    simp [expI, expR, e, ← List.replicate_append_replicate]
section
variable {prog : Program} {w : World} {R : Led}
inductive RowJ (W : Params) (R x : Led) (tr dtr props : Addr) (rows : List Row) (vs' : List Value) (m : Str → Option Value) (nx : Led) : Prop
  | mk (S' : Led) (σ' : St) (ioc : Ioc) (done rest : List Row) (t : Tok) (hx : nx = (x ++ R) ++ S') (j : Dj (x ++ R) S') (G : Rep W tr dtr S' σ') (hrows : rows = done ++ rest) (hri : RowItems R vs' rest) (P : Prog R σ' ioc done) (hm1 : m (Str.ofString "at") = some (.int (sumR done) t)) (hm2 : m (Str.ofString "found") = some (.ref props))
theorem lnj43 : True := by
  (k_with "mine rules" => ((fail_if_success k_extra "off j24"); first | with_reducible assumption | exact HasRules.mono (by with_reducible assumption) (by k_extra "mine sub")))
  (k_with "mine props" => ((fail_if_success k_extra "off j24"); first | with_reducible assumption | exact HasProps.mono (by with_reducible assumption) (by k_extra "mine sub")))
  (k_with "getAttr ref#" => ((fail_if_success k_extra "off j24"); (k_here; (with_reducible show wpAny _ _ (getAttr (Value.ref _) (Str.ofString "tree") _) _ _ _); k_dflt (refine' get_tree ?k1_q ?k2_q ?k3_q ?k4_q ?_; (case k1_q => k_asm); (case k2_q => k_asm); (case k3_q => k_asm); (case k4_q => k_extra "mine props")))))
  (k_with "mine units" => ((fail_if_success k_extra "off j24"); (have hcL9 := cLine_is; (try simp only [units_under_make, units_in1, units_deeper, Around.mark_units, units_caller] at *); (try dsimp only [ktrTop] at *); (first | lia | omega))))
  (k_with "getMethod ref#" => ((fail_if_success k_extra "off j24"); (k_here; (with_reducible show wpAny _ _ (getMethod (Value.ref _) (Str.ofString "get") _) _ _ _); k_dflt (refine' kdg_method (knd := PySem.intKind _ _) ?k1_q ?k2_q ?k3_q ?_; (case k1_q => k_asm); (case k2_q => k_mem); (case k3_q => k_asm)))))
  (k_with "call builtin:dict.get#" => ((fail_if_success k_extra "off j24"); (k_here; (with_reducible show wpAny _ _ (call (Value.builtin "dict.get") [Value.ref _, Value.int _ _, _]) _ _ _); k_dflt (refine' kdg_get2 (knd := PySem.intKind _ _) ?k1_q ?k2_q ?k3_q ?k4_q (intKind_is _ _ _ _) (some _) ?k5_q ?_; (case k1_q => k_asm); (case k2_q => k_mem); (case k3_q => k_asm); (case k4_q => k_asm); (case k5_q => rfl); (try dsimp only [Option.getD])))))
  trivial
theorem props_of_rows_ok {ra : Addr} {vs : List Value} {n : Nat} {rows : List Row} (hm : (ra, listOf vs.toArray n) ∈ R) (hr : RowItems R vs rows) (hl : rows.length ≤ 6) :
    FnX prog w 27 364 [.ref ra] R (fun r news' => ∃ props dp tr dtr x S' σ ioc, r = .ref props ∧ news' = x ++ R ++ S' ∧ HasProps w.params x props dp tr ∧ Newer x R ∧ Dj (x ++ R) S' ∧ Rep w.params tr dtr S' σ ∧ Prog R σ ioc rows) := by
  have hok := hr.ok
  (first | with_reducible refine FnR.intro ?_ | with_reducible refine FnX.intro ?_ | with_reducible refine FnM.intro ?_ | with_reducible refine @Mine.FnS.intro _ _ _ _ _ _ _ _ _ _ ?_)
  intro p loose mean mg mb dp un gd cn cs a9 ccd cl outer A₀ base h₀ L m hp gn dr tk0 os Q E B X T hk F N hd hu hret
  refine enter [(Str.ofString "rows", .ref ra)] B F X N T rfl rfl hk (by k_is) (by k_is) (by ((conv => lhs; whnf); all_goals exact rfl)) (by ((conv => lhs; whnf); all_goals exact rfl)) (by ktr_room) (BindsTo.of_eq rfl) (locs rfl) ?_ rfl rfl rfl (by decide)
  intro g' L' h' FG' F' N' B' X' T'
  (try dsimp only)
  (try k_fold)
  refine fold_A ?_
  intro en9 ak9 hAu9
  have S9 : Site w ak9 (dp + 1) (un + 3) g' L' := Site.mk B' X' T' rfl
  k_extra "mine steps"
  refine' FnX.use text_props_ok ?S ?F ?N ?hd ?hu ?_
  (case S => with_reducible assumption); (case F => k_asm); (case N => k_asm); (case hd => first | exact room (by with_reducible assumption) rfl | ktr_room); (case hu => first | exact unitsL (by with_reducible assumption) rfl | ktr_units)
  rintro _ _ h9 tk9 F9 N9 ⟨props, dpr, tr, dtr, t1, x, rfl, rfl, hP, hnew, hlt, hlt2⟩
  have N9 := News.zero N9
  have G9 : Rep w.params tr dtr _ _ := Rep.zero (P := w.params) (tr := tr) (dtr := dtr) (t1 := t1)
  have j9 := Dj.zero (o1 := instObj 59 dtr) (o2 := rootDict w.params t1 none) hlt hlt2
  have hPx := hP
  have hP : HasProps w.params (x ++ R) props dpr tr := hP.mono fun p hp => List.mem_append_left _ hp
  clear N
  (try dsimp only)
  k_sweep
  k_extra "mine steps"
  refine for_list (RowJ w.params R x tr dtr props rows) rfl (by k_asm) (by k_asm) (List.mem_append_left _ (List.mem_append_right _ hm)) rfl rfl
    ⟨_, _, [], [], rows, _, rfl, j9, G9, rfl, hr, Prog.zero, by k_extra "mine look", by k_extra "mine look"⟩ ?_ ?_ (by rfl)
  · clear G9 j9 hr
    rintro I o v vr m₁ nx h1 tk1 G9 g9 hI hne ⟨S', σ', ioc, done, rest, ta, rfl, j, G, hrows, hri, P, hm1, hm2⟩ hx F' N'
    refine g9 ?_
    intro P9
    clear g9
    cases hri with
    | cons hq hro hri =>
      rename_i rest r q t
      have hIR : ∀ p ∈ x ++ R, p.1 ≠ I := fun p hp => Nat.ne_of_lt (hI p (List.mem_append_left _ hp))
      have hro9 := hro.lo
      have hlen : done.length + 1 + rest.length = rows.length := by rw [hrows]; simp only [List.length_append, List.length_cons]; (first | lia | omega)
      have hd : ∀ r ∈ done, 1 ≤ r.many ∧ r.many ≤ 3 := fun r hr => ⟨(hok r (by rw [hrows]; simp [hr])).lo, (hok r (by rw [hrows]; simp [hr])).hi⟩
      have hsum : sumR (done ++ [r]) = sumR done + r.many := by simp [sumR]
      have hrows' : rows = (done ++ [r]) ++ rest := by rw [hrows]; simp
      have hq' : (q, tupObj [.int r.many t, .ref r.pl]) ∈ (I, o) :: ((x ++ R) ++ S') := List.mem_cons_of_mem _ (List.mem_append_left _ (List.mem_append_right _ hq))
      have jI : Dj ((I, o) :: (x ++ R)) S' := Dj.cons1 (fun p hp => hne p (List.mem_append_right _ hp)) j
      have hPI : HasProps w.params ((I, o) :: (x ++ R)) props dpr tr := hP.mono fun p hp => List.mem_cons_of_mem _ hp
      have hsumle := sumR_le hd
      rcases P.tree with ⟨hd0, hi0, hroot⟩ | ⟨hi0, hT⟩
      · subst hd0
        have hs0 : sumR [] = 0 := rfl
        rw [hs0] at hm1 hsum
        k_extra "mine steps"
        refine' FnS.use (insert_first_ok (many := r.many) G jI hroot (by (first | lia | omega))) ?S ?F ?N ?hd ?hu ?_
        (case S => with_reducible assumption); (case F => k_asm); (case N => k_asm); (case hd => first | exact room (by with_reducible assumption) rfl | ktr_room); (case hu => first | exact unitsL (by with_reducible assumption) rfl | ktr_units)
        rintro _ S2 σ2 h2 tk2 F2 N2 j2 G2 ⟨rfl, xa, xd, hT2⟩
        (try dsimp only)
        k_sweep
        k_extra "mine steps"
        refine' FnS.use (join_first_ok G2 j2 hPI hT2) ?S ?F ?N ?hd ?hu ?_
        (case S => with_reducible assumption); (case F => k_asm); (case N => k_asm); (case hd => first | exact room (by with_reducible assumption) rfl | ktr_room); (case hu => first | exact unitsL (by with_reducible assumption) rfl | ktr_units)
        rintro _ S3 σ3 h3 tk3 F3 N3 j3 G3 ⟨rfl, hT3⟩
        (try dsimp only)
        k_sweep
        k_extra "mine steps"
        have P3 := Prog.first hT3 hro
        exact ForEnd.intro (by k_asm) (by k_asm) (fun p hp => by
          rcases List.mem_append.mp hp with hp | hp
          · exact hIR p hp
          · exact Dj.ne j3 List.mem_cons_self p hp) ⟨List.mem_append_left _ (List.mem_append_right _ hm), S3, σ3, _, [r], rest, _, rfl, (fun p hp => j3 p (List.mem_cons_of_mem _ hp)), G3, hrows', hri, P3, by rw [← hsum]; k_extra "mine look", by k_extra "mine look"⟩
      · obtain ⟨ipre, ⟨y, cy⟩, rfl⟩ := snoc_of hi0
        have hT' : Tr σ' (ipre.map (·.1) ++ [y]) := by simpa using hT
        have ho' : Mine.owns (ipre.map (·.1) ++ [y]) = sumR done := by simpa using P.owns
        have F0 := P.fit hro hd (by (first | lia | omega))
        have F0' : ∀ x d, Fit (ipre.map (·.1) ++ [y] ++ [⟨x, d, r.many, r.pl⟩]) := fun x d => by simpa using F0 x d
        obtain ⟨py, wy, cny, ly⟩ := P.ok (y, cy) (by simp)
        dsimp only at py wy cny ly
        have up : ∀ p ∈ R, p ∈ (I, o) :: (x ++ R) := fun p hp => List.mem_cons_of_mem _ (List.mem_append_right _ hp)
        k_extra "mine steps"
        refine' FnS.use (insert_next_ok (many := r.many) (pl := r.pl) G jI hT' ho' (by (first | lia | omega)) F0') ?S ?F ?N ?hd ?hu ?_
        (case S => with_reducible assumption); (case F => k_asm); (case N => k_asm); (case hd => first | exact room (by with_reducible assumption) rfl | ktr_room); (case hu => first | exact unitsL (by with_reducible assumption) rfl | ktr_units)
        rintro _ S2 σ2 h2 tk2 F2 N2 j2 G2 ⟨rfl, xa, xd, hT2⟩
        (try dsimp only)
        k_sweep
        k_extra "mine steps"
        have fin : ∀ {h' : Heap} {tk' : Nat} {m' : Str → Option Value} {S3 : Led} {σ3 : St} {ioc3 : Ioc} {t3 : Tok}, Fr g' L' h' m' → News g' L' h' ((I, o) :: ((x ++ R) ++ S3)) → Dj ((I, o) :: (x ++ R)) S3 → Rep w.params tr dtr S3 σ3 → Prog R σ3 ioc3 (done ++ [r]) → m' (Str.ofString "at") = some (.int (sumR (done ++ [r])) t3) → m' (Str.ofString "found") = some (.ref props) →
            ForEnd g' L' I o (fun m nx => (ra, listOf vs.toArray n) ∈ nx ∧ RowJ w.params R x tr dtr props rows vr m nx) ⟨h1, gn, dr, tk1, os⟩ ⟨h', gn, dr, tk', os⟩ := fun F3 N3 j3 G3 P3 a3 f3 =>
          ForEnd.intro F3 N3 (fun p hp => by
            rcases List.mem_append.mp hp with hp | hp
            · exact hIR p hp
            · exact Dj.ne j3 List.mem_cons_self p hp) ⟨List.mem_append_left _ (List.mem_append_right _ hm), _, _, _, done ++ [r], rest, _, rfl, (fun p hp => j3 p (List.mem_cons_of_mem _ hp)), G3, hrows', hri, P3, a3, f3⟩
        cases hs : samePl cy r.c with
        | false =>
          refine' FnS.use (join_diff_ok (pre := ipre.map (·.1)) (x := ⟨xa, xd, r.many, r.pl⟩) (y := y) G2 j2 hPI hT2 ho' (F0' xa xd) (hro.pl.mono up) (py.mono up) hro.len ly hro.wf wy hs) ?S ?F ?N ?hd ?hu ?_
          (case S => with_reducible assumption); (case F => k_asm); (case N => k_asm); (case hd => first | exact room (by with_reducible assumption) rfl | ktr_room); (case hu => first | exact unitsL (by with_reducible assumption) rfl | ktr_units)
          rintro _ S3 σ3 h3 tk3 F3 N3 j3 G3 ⟨rfl, hT3⟩
          (try dsimp only)
          k_sweep
          k_extra "mine steps"
          have P3 := P.next hro (by simpa using hT3)
          exact fin (by k_asm) (by k_asm) j3 G3 P3 (by rw [hsum]; k_extra "mine look") (by k_extra "mine look")
        | true =>
          have e := samePl_eq cny hro.cn hs
          subst e
          have F1 : Fit (ipre.map (·.1) ++ [⟨y.a, y.d, y.own + r.many, y.pl⟩]) := by
            have f0 := F0' xa xd
            refine ⟨fun z hz => ?_, ?_, ?_⟩
            · rcases List.mem_append.mp hz with hz | hz
              · exact f0.good z (by simp only [List.mem_append]; exact .inl (.inl hz))
              · have := f0.good y (by simp)
                rw [List.mem_singleton.mp hz]
                show 1 ≤ y.own + r.many
                (first | lia | omega)
            · have := f0.tot
              simp only [owns_append, owns_cons, owns_nil] at this ⊢
              (first | lia | omega)
            · have := f0.cnt
              simp only [List.length_append, List.length_singleton] at this ⊢
              (first | lia | omega)
          refine' FnS.use (join_same_ok (pre := ipre.map (·.1)) (x := ⟨xa, xd, r.many, r.pl⟩) (y := y) G2 j2 hPI hT2 ho' (F0' xa xd) (hro.pl.mono up) (py.mono up) hro.len ly hro.wf wy hs F1) ?S ?F ?N ?hd ?hu ?_
          (case S => with_reducible assumption); (case F => k_asm); (case N => k_asm); (case hd => first | exact room (by with_reducible assumption) rfl | ktr_room); (case hu => first | exact unitsL (by with_reducible assumption) rfl | ktr_units)
          rintro _ S3 σ3 h3 tk3 F3 N3 j3 G3 ⟨rfl, hT3⟩
          (try dsimp only)
          k_sweep
          k_extra "mine steps"
          have P3 := Prog.same P hro hT3
          exact fin (by k_asm) (by k_asm) j3 G3 P3 (by rw [hsum]; k_extra "mine look") (by k_extra "mine look")
  · clear G9 j9
    rintro m₁ nx h1 tk1 ⟨S', σ', ioc, done, rest, ta, rfl, j, G, hrows, hri, P, hm1, hm2⟩ F' N'
    cases hri
    rw [List.append_nil] at hrows
    rw [← hrows] at P
    k_sweep
    k_extra "mine steps"
    (with_reducible rename News _ _ _ _ => kN9)
    exact hret _ _ _ _ (by k_asm) kN9 ⟨props, dpr, tr, dtr, x, S', σ', ioc, rfl, rfl, hPx, hnew, j, G, P⟩
end
end TW4

section TH3
open PySem PySem.W PyProof.Rows PySem.Calls PySem.Spec
set_option maxRecDepth 100000
set_option maxHeartbeats 4000000
/-- things that a list holds, told apart by == and != -/
structure Cmp {α : Type} [DecidableEq α] (prog : Program) (w : World) (El : Led → Addr → α → Prop) : Prop where
  mono : ∀ {T T' : Led} {q : Addr} {a : α}, El T q a → (∀ p ∈ T, p ∈ T') → El T' q a
  eq : ∀ {A : Around} {E : Value → Shared → Prop} {s : Shared} {h₀ : Heap} {L : Addr} {T : Led} {q r : Addr} {a b : α} {Q : Value → Shared → Prop}, News h₀ L s.heap T → El T q a → El T r b → A.units + 128 < cLine → Q (.bool (decide (a = b))) s → wpAny (model prog w) A (compareOp .Eq (.ref q) (.ref r)) Q E s
  ne : ∀ {A : Around} {E : Value → Shared → Prop} {s : Shared} {h₀ : Heap} {L : Addr} {T : Led} {q r : Addr} {a b : α} {Q : Value → Shared → Prop}, News h₀ L s.heap T → El T q a → El T r b → A.units + 128 < cLine → Q (.bool (!decide (a = b))) s → wpAny (model prog w) A (compareOp .NotEq (.ref q) (.ref r)) Q E s
/-- a look: is it a bool, and the value -/
noncomputable def LookAt (T : Led) (q : Addr) (x : PV) : Prop := ∃ u, (q, tupObj [.bool x.isT, u]) ∈ T ∧ PVal T u x
noncomputable def lookData (x : PV) : PyData := .tuple [.bool x.isT, x.data]
theorem lnj44 : True := by
  (k_with "off j24" => skip)
  trivial
theorem LookAt.reads {T : Led} {q : Addr} {x : PV} {h₀ h : Heap} {L : Addr} (H : LookAt T q x) (N : News h₀ L h T) : Reads h (.ref q) (lookData x) [] := by
  obtain ⟨u, hm, hp⟩ := H
  exact .tuple (N _ hm).1 rfl rfl (.cons (.bool _) (.cons (hp.reads N) .nil))
theorem shaped_look (x : PV) : SeqAt.shaped (lookData x) = true := by cases x <;> first | rfl | (simp [lookData, PV.isT, PV.data, SeqAt.shaped, PyData.canLay0, PyData.canLayAll0, PyData.depth, PyData.depthAll]; first | done | decide +kernel)
theorem eqv_look (x y : PV) : PyData.eqv (lookData x) (lookData y) = decide (x = y) := by
  cases x <;> cases y <;> simp [lookData, PV.isT, PV.data, PyData.eqv, PyData.eqvAll]
  rename_i i j
  by_cases e : i = j <;> simp [e]
theorem cmp_look (prog : Program) (w : World) : Cmp prog w LookAt where
  mono := fun ⟨u, hm, hp⟩ s => ⟨u, s _ hm, hp.mono s⟩
  eq := fun N a b hu h => eq_dataH (a.reads N) (b.reads N) (shaped_look _) (shaped_look _) (by (first | lia | omega)) (by rw [eqv_look]; exact h)
  ne := fun N a b hu h => ne_dataH (a.reads N) (b.reads N) (shaped_look _) (shaped_look _) (by (first | lia | omega)) (by rw [eqv_look]; exact h)
theorem look_at {T : Led} {v : Value} {x : PV} (h : IsLook T v x) : ∃ q, v = .ref q ∧ LookAt T q x := by
  obtain ⟨q, u, e, hm, hp⟩ := h
  exact ⟨q, e, u, hm, hp⟩
/-- a dict of looks -/
noncomputable def DictAt (prog : Program) (w : World) (T : Led) (q : Addr) (l : List (Int × PV)) : Prop := IsAll prog w T (.ref q) l ∧ Canon l
theorem RowsAre.get {T : Led} {rows : List (Int × Value)} {l : List (Int × PV)} (h : RowsAre T rows l) (k : Int) : (plGet l k = none ∧ valueAt rows k = none) ∨ ∃ x v, plGet l k = some x ∧ valueAt rows k = some v ∧ IsLook T v x := by
  induction h with
  | nil => exact .inl ⟨rfl, rfl⟩
  | cons k' v x hv _ ih =>
    by_cases e : k' = k
    · refine .inr ⟨x, v, by simp [plGet, e], ?_, hv⟩
      subst e
      simp [valueAt]
    · rcases ih with ⟨a, b⟩ | ⟨x', v', a, b, c⟩
      · exact .inl ⟨by simp [plGet, e, a], by simpa [valueAt, e] using b⟩
      · exact .inr ⟨x', v', by simp [plGet, e, a], by simpa [valueAt, e] using b, c⟩
noncomputable def hitsF (b : List (Int × PV)) : List (Int × PV) → Bool
  | [] => true
  | (k, x) :: r => match plGet b k with
    | none => false
    | some y => decide (x = y) && hitsF b r
theorem hits_of {A : Around} {s : Shared} {T : Led} {h₀ : Heap} {L : Addr} (N : News h₀ L s.heap T) (hu : A.units + 64 < cLine) {rb : List (Int × Value)} {lb : List (Int × PV)} (hb : RowsAre T rb lb) : ∀ {ra : List (Int × Value)} {la : List (Int × PV)}, RowsAre T ra la → KeqHits A s rb ra (hitsF lb la) := by
  intro ra la h
  induction h with
  | nil => exact .nil
  | cons k v x hv _ ih =>
    rcases hb.get k with ⟨a, b⟩ | ⟨y, u, a, b, c⟩
    · simp only [hitsF, a]
      exact .miss b
    · simp only [hitsF, a]
      obtain ⟨q1, e1, r1⟩ := look_at hv
      obtain ⟨q2, e2, r2⟩ := look_at c
      subst e1 e2
      have := SeqAt.eqAt_reads (lookData x) (lookData y) A s (.ref q1) (.ref q2) _ _ (r1.reads N) (r2.reads N) (SeqAt.canLay_of_shaped (shaped_look x)) (SeqAt.canLay_of_shaped (shaped_look y)) (SeqAt.room_of_shaped (shaped_look x) hu)
      rw [eqv_look] at this
      exact .hit b this ih
theorem hitsF_all {b : List (Int × PV)} : ∀ {a : List (Int × PV)}, hitsF b a = true ↔ ∀ p ∈ a, plGet b p.1 = some p.2 := by
  intro a
  induction a with
  | nil => simp [hitsF]
  | cons p a ih =>
    obtain ⟨k, x⟩ := p
    rw [List.forall_mem_cons, ← ih]
    cases h : plGet b k with
    | none => simp only [hitsF, h, Bool.false_eq_true, reduceCtorEq, false_and]
    | some y => simp only [hitsF, h, Bool.and_eq_true, decide_eq_true_eq, Option.some.injEq, @eq_comm _ y x]
theorem plGet_of_mem {l : List (Int × PV)} (h : Canon l) : ∀ p ∈ l, plGet l p.1 = some p.2 := by
  induction l with
  | nil => intro p hp; cases hp
  | cons q l ih =>
    rw [Canon, List.pairwise_cons] at h
    intro p hp
    rcases List.mem_cons.mp hp with rfl | hp
    · simp [plGet]
    · have := h.1 p hp
      rw [plGet, if_neg (by (first | lia | omega))]
      exact ih h.2 p hp
theorem mem_of_plGet {l : List (Int × PV)} {k : Int} {x : PV} (h : plGet l k = some x) : (k, x) ∈ l := by
  induction l with
  | nil => cases h
  | cons q l ih =>
    obtain ⟨k', x'⟩ := q
    by_cases e : k' = k
    · rw [plGet, if_pos e] at h
      cases h
      rw [e]
      exact List.mem_cons_self
    · rw [plGet, if_neg e] at h
      exact List.mem_cons_of_mem _ (ih h)
theorem hits_eq {a b : List (Int × PV)} (ca : Canon a) (cb : Canon b) : ((a.length == b.length) && hitsF b a) = decide (a = b) := by
  by_cases e : a = b
  · subst e
    simp only [beq_self_eq_true, Bool.true_and, decide_true]
    exact hitsF_all.mpr (plGet_of_mem ca)
  · rw [decide_eq_false e]
    rw [Bool.eq_false_iff]
    intro h
    rw [Bool.and_eq_true] at h
    exact e (canon_eq ca cb (fun p hp => mem_of_plGet (hitsF_all.mp h.2 p hp)) (by simpa using h.1))
theorem RowsAre.length {T : Led} {vs : List (Int × Value)} {l : List (Int × PV)} (h : RowsAre T vs l) : vs.length = l.length := by
  have := congrArg List.length h.keys
  simpa using this
theorem cmp_dict (prog : Program) (w : World) : Cmp prog w (DictAt prog w) where
  mono := fun ⟨h, c⟩ s => ⟨h.mono s, c⟩
  eq := fun {A E s h₀ L T q r a b Q} N ⟨x, cx⟩ ⟨y, cy⟩ hu h => by
    obtain ⟨D, o, rows, e, hm, hs, hd, hr⟩ := x
    obtain ⟨D2, o2, rows2, e2, hm2, hs2, hd2, hr2⟩ := y
    cases e
    cases e2
    refine keq_eq hs hs2 (Heap.dictOf_iff.mpr ⟨_, (N _ hm).1, hd⟩) (Heap.dictOf_iff.mpr ⟨_, (N _ hm2).1, hd2⟩) (by (first | lia | omega)) (fun _ => hits_of N (by simp only [units_in1]; (first | lia | omega)) hr2 hr) ?_
    rw [hr.length, hr2.length, hits_eq cx cy]
    exact h
  ne := fun {A E s h₀ L T q r a b Q} N ⟨x, cx⟩ ⟨y, cy⟩ hu h => by
    obtain ⟨D, o, rows, e, hm, hs, hd, hr⟩ := x
    obtain ⟨D2, o2, rows2, e2, hm2, hs2, hd2, hr2⟩ := y
    cases e
    cases e2
    refine keq_ne hs hs2 (Heap.dictOf_iff.mpr ⟨_, (N _ hm).1, hd⟩) (Heap.dictOf_iff.mpr ⟨_, (N _ hm2).1, hd2⟩) (by (first | lia | omega)) (fun _ => hits_of N (by simp only [units_in1]; (first | lia | omega)) hr2 hr) ?_
    rw [hr.length, hr2.length, hits_eq cx cy]
    exact h
end TH3

section TV2
open PySem PySem.W PyProof.Rows PySem.Calls PySem.Spec
set_option maxRecDepth 100000
set_option maxHeartbeats 2000000

theorem sub_cons {S T : Led} {c : Addr × Obj} (h : ∀ p ∈ S, p ∈ T) : ∀ p ∈ S, p ∈ c :: T := fun p hp => List.mem_cons_of_mem _ (h p hp)
/-- the text that props holds: its runs and their plists -/
structure Tx (P : Params) (T : Led) (props : Addr) (ioc : Ioc) : Prop where
  ex : ∃ S tr dtr dp σ, Rep P tr dtr S σ ∧ (∀ p ∈ S, p ∈ T) ∧ HasProps P T props dp tr ∧ Tr σ (ioc.map (·.1))
  ok : IoOk T ioc
  good : Good (ioc.map (·.1))
  len : ioc.length ≤ 6
theorem Tx.mono {P : Params} {T T' : Led} {props : Addr} {ioc : Ioc} (h : Tx P T props ioc) (s : ∀ p ∈ T, p ∈ T') : Tx P T' props ioc := by
  obtain ⟨⟨S, tr, dtr, dp, σ, a, b, c, d⟩, e, f, g⟩ := h
  exact ⟨⟨S, tr, dtr, dp, σ, a, fun p hp => s _ (b p hp), c.mono s, d⟩, e.mono s, f, g⟩
noncomputable def scanN (f : Pl → Bool) : Ioc → Int → Option Int
  | [], _ => none
  | (z, c) :: r, b => if f c then scanN f r (b + z.own) else some b
noncomputable def optI (o : Option Int) (r : Value) : Prop := match o with
  | none => r = .none
  | some b => ∃ t, r = .int b t
noncomputable def below (limit : Int) (o : Option Int) : Option Int := o.bind fun b => if limit ≤ b then none else some b
theorem below_none {limit b : Int} (h : limit ≤ b) : below limit (some b) = none := by simp [below, h]
theorem below_some {limit b : Int} (h : ¬ limit ≤ b) : below limit (some b) = some b := by simp [below, h]
theorem scan_stop {f : Pl → Bool} {z : It} {c : Pl} {r : Ioc} {b : Int} (h : f c = false) : scanN f ((z, c) :: r) b = some b := by simp [scanN, h]
theorem scan_on {f : Pl → Bool} {z : It} {c : Pl} {r : Ioc} {b : Int} (h : f c = true) : scanN f ((z, c) :: r) b = scanN f r (b + z.own) := by simp [scanN, h]
noncomputable abbrev tots (l : Ioc) : Int := owns (l.map (·.1))
section
variable {prog : Program} {w : World} {news : Led}
inductive NcJ (io : Ioc) (c : Pl) (tgt : Option Int) (pl : Addr) (limit : Int) (tl : Tok) (news : Led) (k : Nat) (m : Str → Option Value) (nx : Led) : Prop
  | mk (pre' rest : Ioc) (b : Int) (tb : Tok) (hx : news = nx) (hio : io = pre' ++ rest) (hlen : rest.length < k) (hscan : scanN (fun c' => samePl c' c) rest b = tgt) (hm1 : m (Str.ofString "node") = some (optV (rest.head?.map fun p => p.1.a))) (hm2 : m (Str.ofString "begin") = some (.int b tb)) (hm3 : m (Str.ofString "plist") = some (.ref pl)) (hm4 : m (Str.ofString "limit") = some (.int limit tl))
theorem lnj45 : True := by
  (k_with "mine rules" => ((fail_if_success k_extra "off j25"); first | with_reducible assumption | exact HasRules.mono (by with_reducible assumption) (by k_extra "mine sub")))
  (k_with "mine props" => ((fail_if_success k_extra "off j25"); first | with_reducible assumption | exact HasProps.mono (by with_reducible assumption) (by k_extra "mine sub")))
  (k_with "getAttr ref#" => ((fail_if_success k_extra "off j25"); (k_here; (with_reducible show wpAny _ _ (getAttr (Value.ref _) (Str.ofString "tree") _) _ _ _); k_dflt (refine' get_tree ?k1_q ?k2_q ?k3_q ?k4_q ?_; (case k1_q => k_asm); (case k2_q => k_asm); (case k3_q => k_asm); (case k4_q => k_extra "mine props")))))
  (k_with "mine units" => ((fail_if_success k_extra "off j25"); (have hcL9 := cLine_is; (try simp only [units_under_make, units_in1, units_deeper, Around.mark_units, units_caller] at *); (try dsimp only [ktrTop] at *); omega)))
  (k_with "getMethod ref#" => ((fail_if_success k_extra "off j25"); (k_here; (with_reducible show wpAny _ _ (getMethod (Value.ref _) (Str.ofString "get") _) _ _ _); k_dflt (refine' kdg_method (knd := PySem.intKind _ _) ?k1_q ?k2_q ?k3_q ?_; (case k1_q => k_asm); (case k2_q => k_mem); (case k3_q => k_asm)))))
  (k_with "call builtin:dict.get#" => ((fail_if_success k_extra "off j25"); (k_here; (with_reducible show wpAny _ _ (call (Value.builtin "dict.get") [Value.ref _, Value.int _ _, _]) _ _ _); k_dflt (refine' kdg_get2 (knd := PySem.intKind _ _) ?k1_q ?k2_q ?k3_q ?k4_q (intKind_is _ _ _ _) (some _) ?k5_q ?_; (case k1_q => k_asm); (case k2_q => k_mem); (case k3_q => k_asm); (case k4_q => k_asm); (case k5_q => rfl); (try dsimp only [Option.getD])))))
  (k_with "mine sub" => ((fail_if_success k_extra "off j25"); first | with_reducible assumption | exact (fun _ h9 => h9) | (refine sub_cons ?_; k_extra "mine sub") | (intro p9 hp9; repeat (first | exact hp9 | exact List.mem_append_right _ hp9 | exact List.mem_append_left _ hp9 | refine List.mem_cons_of_mem _ ?_))))
  (k_with "call ref#" => ((fail_if_success k_extra "off j26"); (k_here; (with_reducible show wpAny _ _ (call (Value.ref 84) _ _) _ _ _); k_dflt ((first | (refine' FnR.useI (text_length_ok  ?g_q ?e_q ?sub_q ) ?S_q ?F_q ?N_q ?hd_q ?hu_q ?_)); (case g_q => k_extra "mine rep"); (case N_q => k_asm); (case e_q => with_reducible assumption); (case sub_q => k_extra "mine sub"); (case S_q => first | with_reducible assumption | exact Site.mk (by k_asm) (by k_asm) (by k_asm) (by first | exact rfl | with_reducible assumption)); (case F_q => k_asm); (case hd_q => first | exact room (by with_reducible assumption) rfl | ktr_room); (case hu_q => first | exact unitsL (by with_reducible assumption) rfl | ktr_units); intro h9 tk9 F9 N9 t9; (try k_sweep)))))
  (k_with "call ref#" => ((fail_if_success k_extra "off j26"); (k_here; (with_reducible show wpAny _ _ (call (Value.ref 77) _ _) _ _ _); k_dflt ((first | (refine' FnR.useI (own_length_ok  ?g_q ?e_q ?sub_q ) ?S_q ?F_q ?N_q ?hd_q ?hu_q ?_)); (case g_q => k_extra "mine rep"); (case N_q => k_asm); (case e_q => with_reducible assumption); (case sub_q => k_extra "mine sub"); (case S_q => first | with_reducible assumption | exact Site.mk (by k_asm) (by k_asm) (by k_asm) (by first | exact rfl | with_reducible assumption)); (case F_q => k_asm); (case hd_q => first | exact room (by with_reducible assumption) rfl | ktr_room); (case hu_q => first | exact unitsL (by with_reducible assumption) rfl | ktr_units); intro h9 tk9 F9 N9 t9; (try k_sweep)))))
  (k_with "call ref#" => ((fail_if_success k_extra "off j26"); (k_here; (with_reducible show wpAny _ _ (call (Value.ref 182) _ _) _ _ _); k_dflt ((first | (refine' FnR.useV (following_ok  ?g_q ?e_q ?sub_q ) ?S_q ?F_q ?N_q ?hd_q ?hu_q ?_)); (case g_q => k_extra "mine rep"); (case N_q => k_asm); (case e_q => with_reducible assumption); (case sub_q => k_extra "mine sub"); (case S_q => first | with_reducible assumption | exact Site.mk (by k_asm) (by k_asm) (by k_asm) (by first | exact rfl | with_reducible assumption)); (case F_q => k_asm); (case hd_q => first | exact room (by with_reducible assumption) rfl | ktr_room); (case hu_q => first | exact unitsL (by with_reducible assumption) rfl | ktr_units); intro h9 tk9 F9 N9; (try dsimp only [optV]); (try k_sweep)))))
  (k_with "call ref#" => ((fail_if_success k_extra "off j26"); (k_here; (with_reducible show wpAny _ _ (call (Value.ref 189) _ _) _ _ _); k_dflt ((first | (refine' FnR.useV (preceding_ok  ?g_q ?e_q ?sub_q ) ?S_q ?F_q ?N_q ?hd_q ?hu_q ?_)); (case g_q => k_extra "mine rep"); (case N_q => k_asm); (case e_q => with_reducible assumption); (case sub_q => k_extra "mine sub"); (case S_q => first | with_reducible assumption | exact Site.mk (by k_asm) (by k_asm) (by k_asm) (by first | exact rfl | with_reducible assumption)); (case F_q => k_asm); (case hd_q => first | exact room (by with_reducible assumption) rfl | ktr_room); (case hu_q => first | exact unitsL (by with_reducible assumption) rfl | ktr_units); intro h9 tk9 F9 N9; (try dsimp only [optV]); (try k_sweep)))))
  (k_with "call ref#" => ((fail_if_success k_extra "off j26"); (k_here; (with_reducible show wpAny _ _ (call (Value.ref 161) _ _) _ _ _); k_dflt ((refine' FnX.useT (find_interval_ok ?G_q ?hr_q ?e_q ?sub_q) ?S_q ?F_q ?N_q ?hd_q ?hu_q ?_; (case N_q => k_asm); (case G_q => k_extra "mine rep"); (case hr_q => with_reducible assumption); (case e_q => with_reducible assumption); (case sub_q => k_extra "mine sub")); (case S_q => first | with_reducible assumption | exact Site.mk (by k_asm) (by k_asm) (by k_asm) (by first | exact rfl | with_reducible assumption)); (case F_q => k_asm); (case hd_q => first | exact room (by with_reducible assumption) rfl | ktr_room); (case hu_q => first | exact unitsL (by with_reducible assumption) rfl | ktr_units); intro q9 t9 h9 tk9 F9 N9 hl9; (try k_sweep)))))
  (k_with "call ref#" => ((fail_if_success k_extra "off j26"); (k_here; (with_reducible show wpAny _ _ (call (Value.ref 259) _ _) _ _ _); k_dflt ((first | (refine' FnR.useV (same_plist_ok  ?ha_q ?hb_q ?hza_q ?hzb_q ?wa_q ?wb_q) ?S_q ?F_q ?N_q ?hd_q ?hu_q ?_; (case N_q => k_asm); (case ha_q => k_extra "mine pl"); (case hb_q => k_extra "mine pl"); (case hza_q => first | with_reducible assumption | omega); (case hzb_q => first | with_reducible assumption | omega); (case wa_q => with_reducible assumption); (case wb_q => with_reducible assumption))); (case S_q => first | with_reducible assumption | exact Site.mk (by k_asm) (by k_asm) (by k_asm) (by first | exact rfl | with_reducible assumption)); (case F_q => k_asm); (case hd_q => first | exact room (by with_reducible assumption) rfl | ktr_room); (case hu_q => first | exact unitsL (by with_reducible assumption) rfl | ktr_units); intro h9 tk9 F9 N9; (try k_sweep)))))
  (k_with "call ref#" => ((fail_if_success k_extra "off j26"); (k_here; (with_reducible show wpAny _ _ (call (Value.ref 231) _ _) _ _ _); k_dflt ((first | (refine' FnR.useV (eq_ok  ?hx_q ?hy_q ?hs_q) ?S_q ?F_q ?N_q ?hd_q ?hu_q ?_; (case N_q => k_asm); (case hx_q => k_extra "mine pv"); (case hy_q => k_extra "mine pv"); (case hs_q => with_reducible assumption))); (case S_q => first | with_reducible assumption | exact Site.mk (by k_asm) (by k_asm) (by k_asm) (by first | exact rfl | with_reducible assumption)); (case F_q => k_asm); (case hd_q => first | exact room (by with_reducible assumption) rfl | ktr_room); (case hu_q => first | exact unitsL (by with_reducible assumption) rfl | ktr_units); intro h9 tk9 F9 N9; (try k_sweep)))))
  (k_with "call ref#" => ((fail_if_success k_extra "off j26"); (k_here; (with_reducible show wpAny _ _ (call (Value.ref 294) _ _) _ _ _); k_dflt ((first | (refine' FnR.use (value_in_ok  ?H_q ?hp_q ?wf_q ?hz_q ?hk9_q) ?S_q ?F_q ?N_q ?hd_q ?hu_q ?_; (case N_q => k_asm); (case H_q => k_extra "mine rules"); (case hp_q => k_extra "mine pl"); (case wf_q => with_reducible assumption); (case hz_q => first | with_reducible assumption | omega); (case hk9_q => first | with_reducible assumption | decide | omega))); (case S_q => first | with_reducible assumption | exact Site.mk (by k_asm) (by k_asm) (by k_asm) (by first | exact rfl | with_reducible assumption)); (case F_q => k_asm); (case hd_q => first | exact room (by with_reducible assumption) rfl | ktr_room); (case hu_q => first | exact unitsL (by with_reducible assumption) rfl | ktr_units); intro r9 h9 tk9 F9 N9 post9; skip; (try dsimp only); (try k_sweep)))))
  trivial
theorem next_change_none_ok {props : Addr} {ioc : Ioc} {at_ limit : Int} {ta tl : Tok} (H : Tx w.params news props ioc) (ha : tots ioc ≤ at_) : FnR prog w 17 385 [.ref props, .int at_ ta, .int limit tl] news (fun r => r = .none) := by
  obtain ⟨⟨S, tr, dtr, dp, σ, G, sub, hP, hT⟩, ok, g, hl⟩ := H
  have htot := hT.total
  (first | with_reducible refine FnR.intro ?_ | with_reducible refine FnX.intro ?_ | with_reducible refine FnM.intro ?_ | with_reducible refine @Mine.FnS.intro _ _ _ _ _ _ _ _ _ _ ?_)
  intro p loose mean mg mb dp un gd cn cs a9 ccd cl outer A₀ base h₀ L m hp gn dr tk0 os Q E B X T hk F N hd hu hret
  refine enter [(Str.ofString "props", .ref props), (Str.ofString "at", .int at_ ta), (Str.ofString "limit", .int limit tl)] B F X N T rfl rfl hk (by k_is) (by k_is) (by ((conv => lhs; whnf); all_goals exact rfl)) (by ((conv => lhs; whnf); all_goals exact rfl)) (by ktr_room) (BindsTo.of_eq rfl) (locs rfl) ?_ rfl rfl rfl (by decide)
  intro g' L' h' FG' F' N' B' X' T'
  (try dsimp only)
  (try k_fold)
  refine fold_A ?_
  intro en9 ak9 hAu9
  have S9 : Site w ak9 (dp + 1) (un + 3) g' L' := Site.mk B' X' T' rfl
  k_extra "mine steps"
  first | exact hret _ _ _ (by k_asm) (by k_extra "mine drop") rfl | w_report
theorem next_change_ok {props : Addr} {pre post : Ioc} {x : It} {c : Pl} {at_ limit : Int} {ta tl : Tok} (H : Tx w.params news props (pre ++ (x, c) :: post)) (h0 : tots pre ≤ at_) (h1 : at_ < tots pre + x.own) :
    FnR prog w 17 385 [.ref props, .int at_ ta, .int limit tl] news (fun r => optI (below limit (scanN (fun c' => samePl c' c) ((x, c) :: post) (tots pre))) r) := by
  obtain ⟨⟨S, tr, dtr, dp, σ, G, sub, hP, hT⟩, ok, g, hl⟩ := H
  have htot := hT.total
  simp only [List.map_append, List.map_cons] at hT g
  have hpos : at_ < owns ((pre ++ (x, c) :: post).map (·.1)) := by
    have gp : Good (post.map (·.1)) := fun z hz => g z (by simp only [List.mem_append, List.mem_cons]; exact .inr (.inr hz))
    have := gp.owns
    simp only [tots] at h0 h1
    simp only [List.map_append, List.map_cons, owns_append, owns_cons]
    omega
  obtain ⟨a, hr9, hfind⟩ := hT.find_at (k := at_) (f := 7) g h0 h1 (by simp only [List.length_append, List.length_cons, List.length_map] at hl ⊢; omega)
  obtain ⟨px, wx, cx, lx⟩ := ok (x, c) (by simp)
  obtain ⟨_, _, _, _, hnx⟩ := Tr.node' hT
  (first | with_reducible refine FnR.intro ?_ | with_reducible refine FnX.intro ?_ | with_reducible refine FnM.intro ?_ | with_reducible refine @Mine.FnS.intro _ _ _ _ _ _ _ _ _ _ ?_)
  intro p loose mean mg mb dp un gd cn cs a9 ccd cl outer A₀ base h₀ L m hp gn dr tk0 os Q E B X T hk F N hd hu hret
  refine enter [(Str.ofString "props", .ref props), (Str.ofString "at", .int at_ ta), (Str.ofString "limit", .int limit tl)] B F X N T rfl rfl hk (by k_is) (by k_is) (by ((conv => lhs; whnf); all_goals exact rfl)) (by ((conv => lhs; whnf); all_goals exact rfl)) (by ktr_room) (BindsTo.of_eq rfl) (locs rfl) ?_ rfl rfl rfl (by decide)
  intro g' L' h' FG' F' N' B' X' T'
  (try dsimp only)
  (try k_fold)
  refine fold_A ?_
  intro en9 ak9 hAu9
  have S9 : Site w ak9 (dp + 1) (un + 3) g' L' := Site.mk B' X' T' rfl
  k_extra "mine steps"
  refine whl_J (NcJ (pre ++ (x, c) :: post) c (scanN (fun c' => samePl c' c) ((x, c) :: post) (tots pre)) x.pl limit tl news) (by k_asm) (by k_extra "mine drop1") (post.length + 2) ⟨pre, (x, c) :: post, _, _, rfl, rfl, by simp, rfl, by k_extra "mine look", by k_extra "mine look", by k_extra "mine look", by k_extra "mine look"⟩ ?_
  intro P9
  rintro k m₁ nx h tk G9 g9 ⟨pre', rest, b, tb, rfl, hio, hlen, hscan, hm1, hm2, hm3, hm4⟩ F' N'
  cases rest with
  | nil =>
    dsimp only [List.head?_nil, Option.map_none, optV] at hm1
    refine g9 ?_
    k_extra "mine steps"
    exact hret _ _ _ (by k_asm) (by k_extra "mine drop") (by rw [← hscan]; rfl)
  | cons zc rest =>
    obtain ⟨z, cz⟩ := zc
    dsimp only [List.head?_cons, Option.map_some, optV] at hm1
    have hT2 : Tr σ (pre'.map (·.1) ++ z :: rest.map (·.1)) := by
      have e := congrArg (List.map (·.1)) hio
      simp only [List.map_append, List.map_cons] at e
      rw [← e]
      exact hT
    have hz := Tr.node' hT2
    obtain ⟨_, _, _, _, hnz⟩ := hz
    have hown := Tr.own hT2
    have hfol := Tr.following (f := 7) hT2 (by
      have := congrArg List.length hio
      simp only [List.length_append, List.length_cons, List.length_map] at hl this ⊢
      omega)
    have e9 : (rest.map (·.1)).head?.map It.a = rest.head?.map fun p => p.1.a := by cases rest <;> rfl
    rw [e9] at hfol
    obtain ⟨pz, wz, cz9, lz⟩ := ok (z, cz) (by rw [hio]; simp)
    dsimp only at pz wz cz9 lz
    refine g9 ?_
    k_extra "mine steps"
    · exact LoopJ.again (by k_asm) (by k_asm) hlen ⟨pre' ++ [(z, cz)], rest, _, _, rfl, by rw [hio]; simp, Nat.lt_succ_self _, by rw [← hscan]; exact (scan_on (f := fun c' => samePl c' c) (by assumption)).symm, by k_extra "mine look", by k_extra "mine look", by k_extra "mine look", by k_extra "mine look"⟩
    · exact hret _ _ _ (by k_asm) (by k_extra "mine drop") (by rw [← hscan, scan_stop (f := fun c' => samePl c' c) (by assumption), below_none (by assumption)]; rfl)
    · exact hret _ _ _ (by k_asm) (by k_extra "mine drop") (by rw [← hscan, scan_stop (f := fun c' => samePl c' c) (by assumption), below_some (by assumption)]; exact ⟨_, rfl⟩)
end
end TV2

section TH4
open PySem PySem.W PyProof.Rows PySem.Calls PySem.Spec
set_option maxRecDepth 100000
set_option maxHeartbeats 4000000
noncomputable def nextG {α : Type} [DecidableEq α] (l : List α) (a : Option α) : Nat → Nat → Option Int
  | 0, _ => none
  | k + 1, p => if l[p]? = a then nextG l a k (p + 1) else some (p : Int)
/-- a list of things -/
noncomputable def ListAt {α : Type} (El : Led → Addr → α → Prop) (T : Led) (ll : Addr) (l : List α) : Prop := ∃ (vs : List Value) (n : Nat), (ll, listOf vs.toArray n) ∈ T ∧ vs.length = l.length ∧ ∀ (i : Nat) (a : α), l[i]? = some a → ∃ q, vs[i]? = some (.ref q) ∧ El T q a
theorem lnj46 : True := by
  (k_with "off j26" => skip)
  (k_with "off j25" => skip)
  trivial
theorem ListAt.mono {α : Type} [DecidableEq α] {prog : Program} {w : World} {El : Led → Addr → α → Prop} (C : Cmp prog w El) {T T' : Led} {ll : Addr} {l : List α} (h : ListAt El T ll l) (s : ∀ p ∈ T, p ∈ T') : ListAt El T' ll l := by
  obtain ⟨vs, n, hm, hl, hf⟩ := h
  refine ⟨vs, n, s _ hm, hl, fun i a hi => ?_⟩
  obtain ⟨q, e, hq⟩ := hf i a hi
  exact ⟨q, e, C.mono hq s⟩
theorem Cmp.eq' {α : Type} {inst : DecidableEq α} {prog : Program} {w : World} {El : Led → Addr → α → Prop} (C : Cmp prog w El) {A : Around} {E : Value → Shared → Prop} {s : Shared} {h₀ : Heap} {L : Addr} {T : Led} {q r : Addr} {a b : α} {Q : Value → Shared → Prop} (N : News h₀ L s.heap T) (x : El T q a) (y : El T r b) (u : A.units + 128 < cLine) (h : Q (.bool (decide (a = b))) s) : wpAny (model prog w) A (compareOp .Eq (.ref q) (.ref r)) Q E s := C.eq N x y u h
theorem Cmp.ne' {α : Type} {inst : DecidableEq α} {prog : Program} {w : World} {El : Led → Addr → α → Prop} (C : Cmp prog w El) {A : Around} {E : Value → Shared → Prop} {s : Shared} {h₀ : Heap} {L : Addr} {T : Led} {q r : Addr} {a b : α} {Q : Value → Shared → Prop} (N : News h₀ L s.heap T) (x : El T q a) (y : El T r b) (u : A.units + 128 < cLine) (h : Q (.bool (!decide (a = b))) s) : wpAny (model prog w) A (compareOp .NotEq (.ref q) (.ref r)) Q E s := C.ne N x y u h
theorem lnj47 : True := by
  (k_with "mine rules" => ((fail_if_success k_extra "off j27"); first | with_reducible assumption | exact HasRules.mono (by with_reducible assumption) (by k_extra "mine sub")))
  (k_with "mine props" => ((fail_if_success k_extra "off j27"); first | with_reducible assumption | exact HasProps.mono (by with_reducible assumption) (by k_extra "mine sub")))
  (k_with "getAttr ref#" => ((fail_if_success k_extra "off j27"); (k_here; (with_reducible show wpAny _ _ (getAttr (Value.ref _) (Str.ofString "tree") _) _ _ _); k_dflt (refine' get_tree ?k1_q ?k2_q ?k3_q ?k4_q ?_; (case k1_q => k_asm); (case k2_q => k_asm); (case k3_q => k_asm); (case k4_q => k_extra "mine props")))))
  (k_with "mine units" => ((fail_if_success k_extra "off j27"); (have hcL9 := cLine_is; (try simp only [units_under_make, units_in1, units_deeper, Around.mark_units, units_caller] at *); (try dsimp only [ktrTop] at *); (first | lia | omega))))
  (k_with "getMethod ref#" => ((fail_if_success k_extra "off j27"); (k_here; (with_reducible show wpAny _ _ (getMethod (Value.ref _) (Str.ofString "get") _) _ _ _); k_dflt (refine' kdg_method (knd := PySem.intKind _ _) ?k1_q ?k2_q ?k3_q ?_; (case k1_q => k_asm); (case k2_q => k_mem); (case k3_q => k_asm)))))
  (k_with "call builtin:dict.get#" => ((fail_if_success k_extra "off j27"); (k_here; (with_reducible show wpAny _ _ (call (Value.builtin "dict.get") [Value.ref _, Value.int _ _, _]) _ _ _); k_dflt (refine' kdg_get2 (knd := PySem.intKind _ _) ?k1_q ?k2_q ?k3_q ?k4_q (intKind_is _ _ _ _) (some _) ?k5_q ?_; (case k1_q => k_asm); (case k2_q => k_mem); (case k3_q => k_asm); (case k4_q => k_asm); (case k5_q => rfl); (try dsimp only [Option.getD])))))
  (k_with "compareOp Eq ref ref#" => ((fail_if_success k_extra "off j27"); (k_here; (with_reducible show wpAny _ _ (compareOp CmpOp.Eq (Value.ref _) (Value.ref _)) _ _ _); k_dflt (refine' Cmp.eq' ?C_q ?N_q ?x_q ?y_q ?u_q ?_; (case C_q => with_reducible assumption); (case N_q => k_asm); (case x_q => with_reducible assumption); (case y_q => with_reducible assumption); (case u_q => ktr_units)))))
  (k_with "compareOp NotEq ref ref#" => ((fail_if_success k_extra "off j27"); (k_here; (with_reducible show wpAny _ _ (compareOp CmpOp.NotEq (Value.ref _) (Value.ref _)) _ _ _); k_dflt (refine' Cmp.ne' ?C_q ?N_q ?x_q ?y_q ?u_q ?_; (case C_q => with_reducible assumption); (case N_q => k_asm); (case x_q => with_reducible assumption); (case y_q => with_reducible assumption); (case u_q => ktr_units)))))
  trivial
theorem nx0 {l : Nat} {limit e : Int} (h2 : 0 ≤ limit) (h3 : limit ≤ 1000) (hz : l ≤ 1000) (he : e = if (l : Int) < limit then (l : Int) else limit) : 0 ≤ e ∧ e ≤ 1000 ∧ e ≤ l := by
  rw [he]; split <;> (first | lia | omega)
theorem nx1 {kk at_ : Int} {i : Nat} (h0 : 0 ≤ at_) (h : kk = at_ + 1 + (i : Int)) : kk.toNat = at_.toNat + 1 + i := by (first | lia | omega)
theorem nx2 {n i : Nat} (h : i < n) : n - i = (n - (i + 1)) + 1 := by (first | lia | omega)
theorem nx3 {e kk at_ : Int} {l i : Nat} (h0 : 0 ≤ at_) (he : e ≤ l) (h : i < (e - (at_ + 1)).toNat) (hk : kk = at_ + 1 + (i : Int)) : kk.toNat < l := by (first | lia | omega)
theorem nx4 {at_ : Int} {l : Nat} (h0 : 0 ≤ at_) (h1 : at_ < l) : at_.toNat < l := by (first | lia | omega)
theorem nx5 {at_ : Int} {l : Nat} (h0 : 0 ≤ at_) (h1 : at_ < l) (hz : l ≤ 1000) : 0 ≤ at_ + 1 ∧ at_ + 1 ≤ 1000000000 := by (first | lia | omega)
theorem nx6 {e : Int} (h : 0 ≤ e) (h' : e ≤ 1000) : 0 ≤ e ∧ e ≤ 1000000000 := by (first | lia | omega)
theorem nx7 {kk at_ : Int} {i : Nat} (h0 : 0 ≤ at_) (h : kk = at_ + 1 + (i : Int)) : ((kk.toNat : Nat) : Int) = kk := by (first | lia | omega)
inductive NxJ {α : Type} [DecidableEq α] (l : List α) (a : α) (n : Nat) (ll : Addr) (at_ : Int) (ta : Tok) (news : Led) (i : Nat) (m : Str → Option Value) (nx : Led) : Prop
  | mk (hx : news = nx) (hm1 : m (Str.ofString "looks") = some (.ref ll)) (hm2 : m (Str.ofString "at") = some (.int at_ ta)) (hJ : nextG l (some a) n (at_.toNat + 1) = nextG l (some a) (n - i) (at_.toNat + 1 + i))
section
variable {prog : Program} {w : World} {news : Led} {α : Type} [DecidableEq α] {El : Led → Addr → α → Prop}
section
theorem lnj48 : True := by
  (k_with "ite#" => ((fail_if_success k_extra "off j28"); (first | refine ite_pos (by with_reducible assumption) ?_ | refine ite_neg (by with_reducible assumption) ?_ | refine ite_neg (ne_tr (by with_reducible assumption)) ?_ | refine ite_pos (by decide) ?_ | refine ite_neg (by decide) ?_ | refine ite_stop ?_)))
  trivial
theorem law_next_ok (C : Cmp prog w El) {ll : Addr} {l : List α} {at_ limit : Int} {ta tl : Tok} (hL : ListAt El news ll l) (h0 : 0 ≤ at_) (h1 : at_ < l.length) (h2 : 0 ≤ limit) (h3 : limit ≤ 1000) (hz : l.length ≤ 1000) :
    FnR prog w 20 531 [.ref ll, .int at_ ta, .int limit tl] news (fun r => optI (nextG l (l[at_.toNat]?) ((if (l.length : Int) < limit then (l.length : Int) else limit) - (at_ + 1)).toNat (at_.toNat + 1)) r) := by
  obtain ⟨vs, n, hm, hl, hf⟩ := hL
  obtain ⟨a, ha⟩ : ∃ a, l[at_.toNat]? = some a := ⟨_, List.getElem?_eq_getElem (nx4 h0 h1)⟩
  obtain ⟨qa, hqa, hEa⟩ := hf _ _ ha
  have hvl : vs.length ≤ 1000 := by (first | lia | omega)
  (first | with_reducible refine FnR.intro ?_ | with_reducible refine FnX.intro ?_ | with_reducible refine FnM.intro ?_ | with_reducible refine @Mine.FnS.intro _ _ _ _ _ _ _ _ _ _ ?_)
  intro p loose mean mg mb dp un gd cn cs a9 ccd cl outer A₀ base h₀ L m hp gn dr tk0 os Q E B X T hk F N hd hu hret
  refine enter [(Str.ofString "looks", .ref ll), (Str.ofString "at", .int at_ ta), (Str.ofString "limit", .int limit tl)] B F X N T rfl rfl hk (by k_is) (by k_is) (by ((conv => lhs; whnf); all_goals exact rfl)) (by ((conv => lhs; whnf); all_goals exact rfl)) (by ktr_room) (BindsTo.of_eq rfl) (locs rfl) ?_ rfl rfl rfl (by decide)
  intro g' L' h' FG' F' N' B' X' T'
  (try dsimp only)
  (try k_fold)
  refine fold_A ?_
  intro en9 ak9 hAu9
  have S9 : Site w ak9 (dp + 1) (un + 3) g' L' := Site.mk B' X' T' rfl
  k_extra "mine steps"
  obtain ⟨e, he⟩ : ∃ e, e = (if (l.length : Int) < limit then (l.length : Int) else limit) := ⟨_, rfl⟩
  have he0 := nx0 h2 h3 hz he
  (with_reducible rename IsRange _ _ _ _ _ _ _ _ => hR)
  rw [← he] at hret hR
  clear he
  refine for_range (n := (e - (at_ + 1)).toNat) (NxJ l a (e - (at_ + 1)).toNat ll at_ ta news) rfl hR (nx5 h0 h1 hz) (nx6 he0.1 he0.2.1) rfl (by k_asm) (by k_asm) ⟨rfl, rfl, rfl, rfl⟩ ?_ ?_ (by rfl)
  · clear hR
    rintro I o i kk t1 m₁ nx h1 tk1 G9 g9 hI hne hi hkk ⟨rfl, hm1, hm2, hJ⟩ F' N'
    have hk1 : kk.toNat = at_.toNat + 1 + i := nx1 h0 hkk
    obtain ⟨b, hb⟩ : ∃ b, l[kk.toNat]? = some b := ⟨_, List.getElem?_eq_getElem (nx3 h0 he0.2.2 hi hkk)⟩
    obtain ⟨qb, hqb, hEb⟩ := hf _ _ hb
    have hEa2 := C.mono hEa (T' := (I, o) :: news) (fun p hp => List.mem_cons_of_mem _ hp)
    have hEb2 := C.mono hEb (T' := (I, o) :: news) (fun p hp => List.mem_cons_of_mem _ hp)
    have hk2 : (e - (at_ + 1)).toNat - i = ((e - (at_ + 1)).toNat - (i + 1)) + 1 := nx2 hi
    rw [hk2, nextG, ← hk1, hb] at hJ
    clear hf
    refine g9 ?_
    intro P9
    k_extra "mine steps"
    by_cases hab : b = a
    · rw [if_pos (by rw [hab])] at hJ
      refine stop_not (by simp [hab]) ?_
      k_extra "mine steps"
      exact ForEnd.intro (by k_asm) (by k_asm) hne ⟨rfl, by k_extra "mine look", by k_extra "mine look", by rw [hJ, hk1]; rfl⟩
    · rw [if_neg (by simpa using hab)] at hJ
      refine stop_is (by simp [hab]) ?_
      k_extra "mine steps"
      exact hret _ _ _ (by k_asm) (by k_extra "mine drop") (by rw [ha, hJ]; exact ⟨t1, by rw [nx7 h0 hkk]⟩)
  · rintro m₁ nx h1 tk1 ⟨rfl, hm1, hm2, hJ⟩ F' N'
    clear hR
    rw [Nat.sub_self, nextG] at hJ
    k_sweep
    k_extra "mine steps"
    exact hret _ _ _ (by k_asm) (by k_extra "mine drop") (by rw [ha, hJ]; rfl)
end
noncomputable def lastG {α : Type} [DecidableEq α] (l : List α) (a : Option α) : Nat → Nat
  | 0 => 0
  | p + 1 => if l[p]? = a then lastG l a p else p + 1
noncomputable def aboveG (limit : Int) (p : Nat) : Option Int := if 0 < p ∧ limit < p then some (p : Int) else none
inductive LaJ {α : Type} [DecidableEq α] (l : List α) (a : α) (t0 : Nat) (ll : Addr) (at_ : Int) (ta : Tok) (limit : Int) (tl : Tok) (news : Led) (p : Nat) (m : Str → Option Value) (nx : Led) : Prop
  | mk (pi : Int) (tp : Tok) (hx : news = nx) (hpi : pi = p) (hJ : lastG l (some a) t0 = lastG l (some a) p) (hle : p ≤ t0) (hm1 : m (Str.ofString "place") = some (.int pi tp)) (hm2 : m (Str.ofString "looks") = some (.ref ll)) (hm3 : m (Str.ofString "at") = some (.int at_ ta)) (hm4 : m (Str.ofString "limit") = some (.int limit tl))
section
theorem lnj49 : True := by
  (k_with "off j28" => skip)
  (k_with "ite#" => ((fail_if_success k_extra "off j29"); (first | refine ite_pos (by with_reducible assumption) ?_ | refine ite_neg (by with_reducible assumption) ?_ | refine ite_neg (ne_tr (by with_reducible assumption)) ?_ | refine ite_pos (by decide) ?_ | refine ite_neg (by decide) ?_ | refine ite_stop ?_)))
  (k_with "WhlIf#" => ((fail_if_success k_extra "off j29"); (first | with_reducible refine WhlIf.no rfl ?_ | with_reducible refine WhlIf.yes rfl ?_ | refine WhlIf.yes (decide_eq_true (by (first | lia | omega))) ?_ | refine WhlIf.no (decide_eq_false (by (first | lia | omega))) ?_ | refine stop_any ?_)))
  trivial
theorem law_last_ok (C : Cmp prog w El) {ll : Addr} {l : List α} {at_ limit : Int} {ta tl : Tok} (hL : ListAt El news ll l) (h0 : 0 < at_) (h1 : at_ ≤ l.length) (hz : l.length ≤ 1000) :
    FnR prog w 20 538 [.ref ll, .int at_ ta, .int limit tl] news (fun r => optI (aboveG limit (lastG l (l[(at_ - 1).toNat]?) (at_ - 1).toNat)) r) := by
  obtain ⟨vs, n, hm, hl, hf⟩ := hL
  obtain ⟨a, ha⟩ : ∃ a, l[(at_ - 1).toNat]? = some a := ⟨_, List.getElem?_eq_getElem (by (first | lia | omega))⟩
  obtain ⟨qa, hqa, hEa⟩ := hf _ _ ha
  have hvl : vs.length ≤ 1000 := by (first | lia | omega)
  (first | with_reducible refine FnR.intro ?_ | with_reducible refine FnX.intro ?_ | with_reducible refine FnM.intro ?_ | with_reducible refine @Mine.FnS.intro _ _ _ _ _ _ _ _ _ _ ?_)
  intro p loose mean mg mb dp un gd cn cs a9 ccd cl outer A₀ base h₀ L m hp gn dr tk0 os Q E B X T hk F N hd hu hret
  refine enter [(Str.ofString "looks", .ref ll), (Str.ofString "at", .int at_ ta), (Str.ofString "limit", .int limit tl)] B F X N T rfl rfl hk (by k_is) (by k_is) (by ((conv => lhs; whnf); all_goals exact rfl)) (by ((conv => lhs; whnf); all_goals exact rfl)) (by ktr_room) (BindsTo.of_eq rfl) (locs rfl) ?_ rfl rfl rfl (by decide)
  intro g' L' h' FG' F' N' B' X' T'
  (try dsimp only)
  (try k_fold)
  refine fold_A ?_
  intro en9 ak9 hAu9
  have S9 : Site w ak9 (dp + 1) (un + 3) g' L' := Site.mk B' X' T' rfl
  k_extra "mine steps"
  refine whl_J (LaJ l a (at_ - 1).toNat ll at_ ta limit tl news) (by k_asm) (by k_asm) (at_ - 1).toNat ⟨at_ - 1, _, rfl, by (first | lia | omega), rfl, Nat.le_refl _, by k_extra "mine look", by k_extra "mine look", by k_extra "mine look", by k_extra "mine look"⟩ ?_
  intro P9
  rintro k m₁ nx h tk G9 g9 ⟨pi, tp, rfl, hpi, hJ, hle, hm1, hm2, hm3, hm4⟩ F' N'
  cases k with
  | zero =>
    rw [lastG] at hJ
    refine g9 ?_
    k_extra "mine steps"
    refine stop_nlt (by (first | lia | omega)) ?_
    k_extra "mine steps"
    refine stop_nlt (by (first | lia | omega)) ?_
    k_extra "mine steps"
    exact hret _ _ _ (by k_asm) (by k_extra "mine drop") (by rw [ha, hJ, aboveG, if_neg (by (first | lia | omega))]; rfl)
  | succ p =>
    obtain ⟨b, hb⟩ : ∃ b, l[(pi - 1).toNat]? = some b := ⟨_, List.getElem?_eq_getElem (by (first | lia | omega))⟩
    obtain ⟨qb, hqb, hEb⟩ := hf _ _ hb
    have hp1 : (pi - 1).toNat = p := by (first | lia | omega)
    rw [lastG, ← hp1, hb] at hJ
    clear hf
    refine g9 ?_
    k_extra "mine steps"
    refine stop_lt (by (first | lia | omega)) ?_
    k_extra "mine steps"
    by_cases hab : b = a
    · rw [if_pos (by rw [hab])] at hJ
      refine stop_lt hab ?_
      k_extra "mine steps"
      exact LoopJ.again (by k_asm) (by k_asm) (Nat.lt_succ_self p) ⟨pi - 1, _, rfl, by (first | lia | omega), by rw [hJ, hp1], by (first | lia | omega), by k_extra "mine look", by k_extra "mine look", by k_extra "mine look", by k_extra "mine look"⟩
    · rw [if_neg (by simpa using hab)] at hJ
      refine stop_nlt hab ?_
      k_extra "mine steps"
      refine stop_lt (by (first | lia | omega)) ?_
      k_extra "mine steps"
      by_cases hlim : limit < pi
      · refine stop_lt hlim ?_
        k_extra "mine steps"
        exact hret _ _ _ (by k_asm) (by k_extra "mine drop") (by rw [ha, hJ, aboveG, if_pos ⟨by (first | lia | omega), by (first | lia | omega)⟩]; exact ⟨tp, congrArg (Value.int · tp) (by (first | lia | omega))⟩)
      · refine stop_nlt hlim ?_
        k_extra "mine steps"
        exact hret _ _ _ (by k_asm) (by k_extra "mine drop") (by rw [ha, hJ, aboveG, if_neg (by (first | lia | omega))]; rfl)
end
end
end TH4

section TV3
open PySem PySem.W PyProof.Rows PySem.Calls PySem.Spec
set_option maxRecDepth 100000
set_option maxHeartbeats 2000000

theorem lnj50 : True := by
  (k_with "off j29" => skip)
  (k_with "off j27" => skip)
  trivial
theorem HasRules.sym {P : Params} {T : Led} {rules : Addr} {held : PV} (h : HasRules P T rules held) : held.isSym = false := by
  obtain ⟨dr, lisp, dl, pd, hl, ht, df, od, t0, t1, t2, t3, t4, t5, t6, t7, t8, u0, u1, u2, u3, u4, s0, s1, s2, s3, a0, b0, hv, n, m1, m2, m3, m4, m5, hsy, hod, m6, m7, hvp, hvs⟩ := h
  exact hvs
theorem valIn_sym {l : Pl} {k : Int} {held : PV} (w : WfPl l) (hk : k ≠ 100) (hh : held.isSym = false) : (valIn l k held).isSym = false := by
  unfold valIn
  split
  · rename_i x hx
    rw [w.get hx]
    simp [hk]
  · split
    · split
      · exact hh
      · rfl
    · rfl
section
variable {prog : Program} {w : World} {news : Led}
inductive NsJ (io : Ioc) (f : Pl → Bool) (tgt : Option Int) (rules : Addr) (number : Int) (tn : Tok) (v : Value) (limit : Int) (tl : Tok) (news : Led) (k : Nat) (m : Str → Option Value) (nx : Led) : Prop
  | mk (pre' rest : Ioc) (b : Int) (tb : Tok) (hx : news = nx) (hio : io = pre' ++ rest) (hlen : rest.length < k) (hscan : scanN f rest b = tgt) (hm1 : m (Str.ofString "node") = some (optV (rest.head?.map fun p => p.1.a))) (hm2 : m (Str.ofString "begin") = some (.int b tb)) (hm3 : m (Str.ofString "value") = some v) (hm4 : m (Str.ofString "rules") = some (.ref rules)) (hm5 : m (Str.ofString "number") = some (.int number tn)) (hm6 : m (Str.ofString "limit") = some (.int limit tl))
theorem lnj51 : True := by
  (k_with "mine rules" => ((fail_if_success k_extra "off j30"); first | with_reducible assumption | exact HasRules.mono (by with_reducible assumption) (by k_extra "mine sub")))
  (k_with "mine props" => ((fail_if_success k_extra "off j30"); first | with_reducible assumption | exact HasProps.mono (by with_reducible assumption) (by k_extra "mine sub")))
  (k_with "getAttr ref#" => ((fail_if_success k_extra "off j30"); (k_here; (with_reducible show wpAny _ _ (getAttr (Value.ref _) (Str.ofString "tree") _) _ _ _); k_dflt (refine' get_tree ?k1_q ?k2_q ?k3_q ?k4_q ?_; (case k1_q => k_asm); (case k2_q => k_asm); (case k3_q => k_asm); (case k4_q => k_extra "mine props")))))
  (k_with "mine units" => ((fail_if_success k_extra "off j30"); (have hcL9 := cLine_is; (try simp only [units_under_make, units_in1, units_deeper, Around.mark_units, units_caller] at *); (try dsimp only [ktrTop] at *); omega)))
  (k_with "getMethod ref#" => ((fail_if_success k_extra "off j30"); (k_here; (with_reducible show wpAny _ _ (getMethod (Value.ref _) (Str.ofString "get") _) _ _ _); k_dflt (refine' kdg_method (knd := PySem.intKind _ _) ?k1_q ?k2_q ?k3_q ?_; (case k1_q => k_asm); (case k2_q => k_mem); (case k3_q => k_asm)))))
  (k_with "call builtin:dict.get#" => ((fail_if_success k_extra "off j30"); (k_here; (with_reducible show wpAny _ _ (call (Value.builtin "dict.get") [Value.ref _, Value.int _ _, _]) _ _ _); k_dflt (refine' kdg_get2 (knd := PySem.intKind _ _) ?k1_q ?k2_q ?k3_q ?k4_q (intKind_is _ _ _ _) (some _) ?k5_q ?_; (case k1_q => k_asm); (case k2_q => k_mem); (case k3_q => k_asm); (case k4_q => k_asm); (case k5_q => rfl); (try dsimp only [Option.getD])))))
  (k_with "mine sub" => ((fail_if_success k_extra "off j30"); first | with_reducible assumption | exact (fun _ h9 => h9) | (refine sub_cons ?_; k_extra "mine sub") | (intro p9 hp9; repeat (first | exact hp9 | exact List.mem_append_right _ hp9 | exact List.mem_append_left _ hp9 | refine List.mem_cons_of_mem _ ?_))))
  (k_with "call ref#" => ((fail_if_success k_extra "off j31"); (k_here; (with_reducible show wpAny _ _ (call (Value.ref 84) _ _) _ _ _); k_dflt ((first | (refine' FnR.useI (text_length_ok  ?g_q ?e_q ?sub_q ) ?S_q ?F_q ?N_q ?hd_q ?hu_q ?_)); (case g_q => k_extra "mine rep"); (case N_q => k_asm); (case e_q => with_reducible assumption); (case sub_q => k_extra "mine sub"); (case S_q => first | with_reducible assumption | exact Site.mk (by k_asm) (by k_asm) (by k_asm) (by first | exact rfl | with_reducible assumption)); (case F_q => k_asm); (case hd_q => first | exact room (by with_reducible assumption) rfl | ktr_room); (case hu_q => first | exact unitsL (by with_reducible assumption) rfl | ktr_units); intro h9 tk9 F9 N9 t9; (try k_sweep)))))
  (k_with "call ref#" => ((fail_if_success k_extra "off j31"); (k_here; (with_reducible show wpAny _ _ (call (Value.ref 77) _ _) _ _ _); k_dflt ((first | (refine' FnR.useI (own_length_ok  ?g_q ?e_q ?sub_q ) ?S_q ?F_q ?N_q ?hd_q ?hu_q ?_)); (case g_q => k_extra "mine rep"); (case N_q => k_asm); (case e_q => with_reducible assumption); (case sub_q => k_extra "mine sub"); (case S_q => first | with_reducible assumption | exact Site.mk (by k_asm) (by k_asm) (by k_asm) (by first | exact rfl | with_reducible assumption)); (case F_q => k_asm); (case hd_q => first | exact room (by with_reducible assumption) rfl | ktr_room); (case hu_q => first | exact unitsL (by with_reducible assumption) rfl | ktr_units); intro h9 tk9 F9 N9 t9; (try k_sweep)))))
  (k_with "call ref#" => ((fail_if_success k_extra "off j31"); (k_here; (with_reducible show wpAny _ _ (call (Value.ref 182) _ _) _ _ _); k_dflt ((first | (refine' FnR.useV (following_ok  ?g_q ?e_q ?sub_q ) ?S_q ?F_q ?N_q ?hd_q ?hu_q ?_)); (case g_q => k_extra "mine rep"); (case N_q => k_asm); (case e_q => with_reducible assumption); (case sub_q => k_extra "mine sub"); (case S_q => first | with_reducible assumption | exact Site.mk (by k_asm) (by k_asm) (by k_asm) (by first | exact rfl | with_reducible assumption)); (case F_q => k_asm); (case hd_q => first | exact room (by with_reducible assumption) rfl | ktr_room); (case hu_q => first | exact unitsL (by with_reducible assumption) rfl | ktr_units); intro h9 tk9 F9 N9; (try dsimp only [optV]); (try k_sweep)))))
  (k_with "call ref#" => ((fail_if_success k_extra "off j31"); (k_here; (with_reducible show wpAny _ _ (call (Value.ref 189) _ _) _ _ _); k_dflt ((first | (refine' FnR.useV (preceding_ok  ?g_q ?e_q ?sub_q ) ?S_q ?F_q ?N_q ?hd_q ?hu_q ?_)); (case g_q => k_extra "mine rep"); (case N_q => k_asm); (case e_q => with_reducible assumption); (case sub_q => k_extra "mine sub"); (case S_q => first | with_reducible assumption | exact Site.mk (by k_asm) (by k_asm) (by k_asm) (by first | exact rfl | with_reducible assumption)); (case F_q => k_asm); (case hd_q => first | exact room (by with_reducible assumption) rfl | ktr_room); (case hu_q => first | exact unitsL (by with_reducible assumption) rfl | ktr_units); intro h9 tk9 F9 N9; (try dsimp only [optV]); (try k_sweep)))))
  (k_with "call ref#" => ((fail_if_success k_extra "off j31"); (k_here; (with_reducible show wpAny _ _ (call (Value.ref 161) _ _) _ _ _); k_dflt ((refine' FnX.useT (find_interval_ok ?G_q ?hr_q ?e_q ?sub_q) ?S_q ?F_q ?N_q ?hd_q ?hu_q ?_; (case N_q => k_asm); (case G_q => k_extra "mine rep"); (case hr_q => with_reducible assumption); (case e_q => with_reducible assumption); (case sub_q => k_extra "mine sub")); (case S_q => first | with_reducible assumption | exact Site.mk (by k_asm) (by k_asm) (by k_asm) (by first | exact rfl | with_reducible assumption)); (case F_q => k_asm); (case hd_q => first | exact room (by with_reducible assumption) rfl | ktr_room); (case hu_q => first | exact unitsL (by with_reducible assumption) rfl | ktr_units); intro q9 t9 h9 tk9 F9 N9 hl9; (try k_sweep)))))
  (k_with "call ref#" => ((fail_if_success k_extra "off j31"); (k_here; (with_reducible show wpAny _ _ (call (Value.ref 259) _ _) _ _ _); k_dflt ((first | (refine' FnR.useV (same_plist_ok  ?ha_q ?hb_q ?hza_q ?hzb_q ?wa_q ?wb_q) ?S_q ?F_q ?N_q ?hd_q ?hu_q ?_; (case N_q => k_asm); (case ha_q => k_extra "mine pl"); (case hb_q => k_extra "mine pl"); (case hza_q => first | with_reducible assumption | omega); (case hzb_q => first | with_reducible assumption | omega); (case wa_q => with_reducible assumption); (case wb_q => with_reducible assumption))); (case S_q => first | with_reducible assumption | exact Site.mk (by k_asm) (by k_asm) (by k_asm) (by first | exact rfl | with_reducible assumption)); (case F_q => k_asm); (case hd_q => first | exact room (by with_reducible assumption) rfl | ktr_room); (case hu_q => first | exact unitsL (by with_reducible assumption) rfl | ktr_units); intro h9 tk9 F9 N9; (try k_sweep)))))
  (k_with "call ref#" => ((fail_if_success k_extra "off j31"); (k_here; (with_reducible show wpAny _ _ (call (Value.ref 231) _ _) _ _ _); k_dflt ((first | (refine' FnR.useV (eq_ok  ?hx_q ?hy_q ?hs_q) ?S_q ?F_q ?N_q ?hd_q ?hu_q ?_; (case N_q => k_asm); (case hx_q => k_extra "mine pv"); (case hy_q => k_extra "mine pv"); (case hs_q => with_reducible assumption))); (case S_q => first | with_reducible assumption | exact Site.mk (by k_asm) (by k_asm) (by k_asm) (by first | exact rfl | with_reducible assumption)); (case F_q => k_asm); (case hd_q => first | exact room (by with_reducible assumption) rfl | ktr_room); (case hu_q => first | exact unitsL (by with_reducible assumption) rfl | ktr_units); intro h9 tk9 F9 N9; (try k_sweep)))))
  (k_with "call ref#" => ((fail_if_success k_extra "off j31"); (k_here; (with_reducible show wpAny _ _ (call (Value.ref 294) _ _) _ _ _); k_dflt ((first | (refine' FnR.use (value_in_ok  ?H_q ?hp_q ?wf_q ?hz_q ?hk9_q) ?S_q ?F_q ?N_q ?hd_q ?hu_q ?_; (case N_q => k_asm); (case H_q => k_extra "mine rules"); (case hp_q => k_extra "mine pl"); (case wf_q => with_reducible assumption); (case hz_q => first | with_reducible assumption | omega); (case hk9_q => first | with_reducible assumption | decide | omega))); (case S_q => first | with_reducible assumption | exact Site.mk (by k_asm) (by k_asm) (by k_asm) (by first | exact rfl | with_reducible assumption)); (case F_q => k_asm); (case hd_q => first | exact room (by with_reducible assumption) rfl | ktr_room); (case hu_q => first | exact unitsL (by with_reducible assumption) rfl | ktr_units); intro r9 h9 tk9 F9 N9 post9; skip; (try dsimp only); (try k_sweep)))))
  trivial
theorem next_single_none_ok {props : Addr} {ioc : Ioc} {at_ limit number : Int} {ta tl tn : Tok} {rules : Addr} {held : PV} (HR : HasRules w.params news rules held) (hk9 : number ≠ 100) (H : Tx w.params news props ioc) (ha : tots ioc ≤ at_) : FnR prog w 17 392 [.ref props, .ref rules, .int at_ ta, .int number tn, .int limit tl] news (fun r => r = .none) := by
  obtain ⟨⟨S, tr, dtr, dp, σ, G, sub, hP, hT⟩, ok, g, hl⟩ := H
  have htot := hT.total
  (first | with_reducible refine FnR.intro ?_ | with_reducible refine FnX.intro ?_ | with_reducible refine FnM.intro ?_ | with_reducible refine @Mine.FnS.intro _ _ _ _ _ _ _ _ _ _ ?_)
  intro p loose mean mg mb dp un gd cn cs a9 ccd cl outer A₀ base h₀ L m hp gn dr tk0 os Q E B X T hk F N hd hu hret
  refine enter [(Str.ofString "props", .ref props), (Str.ofString "rules", .ref rules), (Str.ofString "at", .int at_ ta), (Str.ofString "number", .int number tn), (Str.ofString "limit", .int limit tl)] B F X N T rfl rfl hk (by k_is) (by k_is) (by ((conv => lhs; whnf); all_goals exact rfl)) (by ((conv => lhs; whnf); all_goals exact rfl)) (by ktr_room) (BindsTo.of_eq rfl) (locs rfl) ?_ rfl rfl rfl (by decide)
  intro g' L' h' FG' F' N' B' X' T'
  (try dsimp only)
  (try k_fold)
  refine fold_A ?_
  intro en9 ak9 hAu9
  have S9 : Site w ak9 (dp + 1) (un + 3) g' L' := Site.mk B' X' T' rfl
  k_extra "mine steps"
  first | exact hret _ _ _ (by k_asm) (by k_extra "mine drop") rfl | w_report
theorem next_single_ok {props : Addr} {pre post : Ioc} {x : It} {c : Pl} {at_ limit number : Int} {ta tl tn : Tok} {rules : Addr} {held : PV} (HR : HasRules w.params news rules held) (hk9 : number ≠ 100) (H : Tx w.params news props (pre ++ (x, c) :: post)) (h0 : tots pre ≤ at_) (h1 : at_ < tots pre + x.own) :
    FnR prog w 17 392 [.ref props, .ref rules, .int at_ ta, .int number tn, .int limit tl] news (fun r => optI (below limit (scanN (fun c' => pvEq (valIn c' number held) (valIn c number held)) ((x, c) :: post) (tots pre))) r) := by
  obtain ⟨⟨S, tr, dtr, dp, σ, G, sub, hP, hT⟩, ok, g, hl⟩ := H
  have htot := hT.total
  simp only [List.map_append, List.map_cons] at hT g
  have hpos : at_ < owns ((pre ++ (x, c) :: post).map (·.1)) := by
    have gp : Good (post.map (·.1)) := fun z hz => g z (by simp only [List.mem_append, List.mem_cons]; exact .inr (.inr hz))
    have := gp.owns
    simp only [tots] at h0 h1
    simp only [List.map_append, List.map_cons, owns_append, owns_cons]
    omega
  obtain ⟨a, hr9, hfind⟩ := hT.find_at (k := at_) (f := 7) g h0 h1 (by simp only [List.length_append, List.length_cons, List.length_map] at hl ⊢; omega)
  obtain ⟨px, wx, cx, lx⟩ := ok (x, c) (by simp)
  dsimp only at px wx cx lx
  obtain ⟨_, _, _, _, hnx⟩ := Tr.node' hT
  have hsx := valIn_sym wx hk9 HR.sym
  have hlx : c.length ≤ 4000000 := Nat.le_trans lx (by decide)
  (first | with_reducible refine FnR.intro ?_ | with_reducible refine FnX.intro ?_ | with_reducible refine FnM.intro ?_ | with_reducible refine @Mine.FnS.intro _ _ _ _ _ _ _ _ _ _ ?_)
  intro p loose mean mg mb dp un gd cn cs a9 ccd cl outer A₀ base h₀ L m hp gn dr tk0 os Q E B X T hk F N hd hu hret
  refine enter [(Str.ofString "props", .ref props), (Str.ofString "rules", .ref rules), (Str.ofString "at", .int at_ ta), (Str.ofString "number", .int number tn), (Str.ofString "limit", .int limit tl)] B F X N T rfl rfl hk (by k_is) (by k_is) (by ((conv => lhs; whnf); all_goals exact rfl)) (by ((conv => lhs; whnf); all_goals exact rfl)) (by ktr_room) (BindsTo.of_eq rfl) (locs rfl) ?_ rfl rfl rfl (by decide)
  intro g' L' h' FG' F' N' B' X' T'
  (try dsimp only)
  (try k_fold)
  refine fold_A ?_
  intro en9 ak9 hAu9
  have S9 : Site w ak9 (dp + 1) (un + 3) g' L' := Site.mk B' X' T' rfl
  k_extra "mine steps"
  refine whl_J (NsJ (pre ++ (x, c) :: post) (fun c' => pvEq (valIn c' number held) (valIn c number held)) (scanN (fun c' => pvEq (valIn c' number held) (valIn c number held)) ((x, c) :: post) (tots pre)) rules number tn r9 limit tl news) (by k_asm) (by k_extra "mine drop1") (post.length + 2) ⟨pre, (x, c) :: post, _, _, rfl, rfl, by simp, rfl, by k_extra "mine look", by k_extra "mine look", by k_extra "mine look", by k_extra "mine look", by k_extra "mine look", by k_extra "mine look"⟩ ?_
  intro P9
  rintro k m₁ nx h tk G9 g9 ⟨pre', rest, b, tb, rfl, hio, hlen, hscan, hm1, hm2, hm3, hm4, hm5, hm6⟩ F' N'
  cases rest with
  | nil =>
    dsimp only [List.head?_nil, Option.map_none, optV] at hm1
    refine g9 ?_
    k_extra "mine steps"
    exact hret _ _ _ (by k_asm) (by k_extra "mine drop") (by rw [← hscan]; rfl)
  | cons zc rest =>
    obtain ⟨z, cz⟩ := zc
    dsimp only [List.head?_cons, Option.map_some, optV] at hm1
    have hT2 : Tr σ (pre'.map (·.1) ++ z :: rest.map (·.1)) := by
      have e := congrArg (List.map (·.1)) hio
      simp only [List.map_append, List.map_cons] at e
      rw [← e]
      exact hT
    have hz := Tr.node' hT2
    obtain ⟨_, _, _, _, hnz⟩ := hz
    have hown := Tr.own hT2
    have hfol := Tr.following (f := 7) hT2 (by
      have := congrArg List.length hio
      simp only [List.length_append, List.length_cons, List.length_map] at hl this ⊢
      omega)
    have e9 : (rest.map (·.1)).head?.map It.a = rest.head?.map fun p => p.1.a := by cases rest <;> rfl
    rw [e9] at hfol
    obtain ⟨pz, wz, cz9, lz⟩ := ok (z, cz) (by rw [hio]; simp)
    dsimp only at pz wz cz9 lz
    have hse : (valIn cz number held).isSym = (valIn c number held).isSym := by rw [hsx, valIn_sym wz hk9 HR.sym]
    have hlz : cz.length ≤ 4000000 := Nat.le_trans lz (by decide)
    refine g9 ?_
    k_extra "mine steps"
    · exact LoopJ.again (by k_asm) (by k_asm) hlen ⟨pre' ++ [(z, cz)], rest, _, _, rfl, by rw [hio]; simp, Nat.lt_succ_self _, by rw [← hscan]; exact (scan_on (f := fun c' => pvEq (valIn c' number held) (valIn c number held)) (by assumption)).symm, by k_extra "mine look", by k_extra "mine look", by k_extra "mine look", by k_extra "mine look", by k_extra "mine look", by k_extra "mine look"⟩
    · exact hret _ _ _ (by k_asm) (by k_extra "mine drop") (by rw [← hscan, scan_stop (f := fun c' => pvEq (valIn c' number held) (valIn c number held)) (by assumption), below_none (by assumption)]; rfl)
    · exact hret _ _ _ (by k_asm) (by k_extra "mine drop") (by rw [← hscan, scan_stop (f := fun c' => pvEq (valIn c' number held) (valIn c number held)) (by assumption), below_some (by assumption)]; exact ⟨_, rfl⟩)
end
end TV3

section TV4
open PySem PySem.W PyProof.Rows PySem.Calls PySem.Spec
set_option maxRecDepth 100000
set_option maxHeartbeats 2000000

noncomputable def scanP (f : Pl → Bool) : Ioc → Int → Option Int
  | [], _ => none
  | (z, c) :: r, b => if f c then scanP f r (b - z.own) else some b
noncomputable def above (limit : Int) (o : Option Int) : Option Int := o.bind fun b => if b ≤ limit then none else some b
theorem lnj52 : True := by
  (k_with "off j31" => skip)
  (k_with "off j30" => skip)
  trivial
theorem above_none {limit b : Int} (h : b ≤ limit) : above limit (some b) = none := by simp [above, h]
theorem above_some {limit b : Int} (h : ¬ b ≤ limit) : above limit (some b) = some b := by simp [above, h]
theorem scanP_stop {f : Pl → Bool} {z : It} {c : Pl} {r : Ioc} {b : Int} (h : f c = false) : scanP f ((z, c) :: r) b = some b := by simp [scanP, h]
theorem scanP_on {f : Pl → Bool} {z : It} {c : Pl} {r : Ioc} {b : Int} (h : f c = true) : scanP f ((z, c) :: r) b = scanP f r (b - z.own) := by simp [scanP, h]
theorem prec_head (l : Ioc) : (l.map (·.1)).getLast?.map It.a = l.reverse.head?.map fun p => p.1.a := by
  rw [List.head?_reverse, List.getLast?_map]
  cases l.getLast? <;> rfl
section
variable {prog : Program} {w : World} {news : Led}
inductive PcJ (pre : Ioc) (c : Pl) (tgt : Option Int) (pl : Addr) (limit : Int) (tl : Tok) (news : Led) (k : Nat) (m : Str → Option Value) (nx : Led) : Prop
  | mk (pas rest : Ioc) (b : Int) (tb : Tok) (hx : news = nx) (hio : pre = rest.reverse ++ pas) (hlen : rest.length < k) (hscan : scanP (fun c' => samePl c' c) rest b = tgt) (hm1 : m (Str.ofString "node") = some (optV (rest.head?.map fun p => p.1.a))) (hm2 : m (Str.ofString "begin") = some (.int b tb)) (hm3 : m (Str.ofString "plist") = some (.ref pl)) (hm4 : m (Str.ofString "limit") = some (.int limit tl))
theorem lnj53 : True := by
  (k_with "mine rules" => ((fail_if_success k_extra "off j32"); first | with_reducible assumption | exact HasRules.mono (by with_reducible assumption) (by k_extra "mine sub")))
  (k_with "mine props" => ((fail_if_success k_extra "off j32"); first | with_reducible assumption | exact HasProps.mono (by with_reducible assumption) (by k_extra "mine sub")))
  (k_with "getAttr ref#" => ((fail_if_success k_extra "off j32"); (k_here; (with_reducible show wpAny _ _ (getAttr (Value.ref _) (Str.ofString "tree") _) _ _ _); k_dflt (refine' get_tree ?k1_q ?k2_q ?k3_q ?k4_q ?_; (case k1_q => k_asm); (case k2_q => k_asm); (case k3_q => k_asm); (case k4_q => k_extra "mine props")))))
  (k_with "mine units" => ((fail_if_success k_extra "off j32"); (have hcL9 := cLine_is; (try simp only [units_under_make, units_in1, units_deeper, Around.mark_units, units_caller] at *); (try dsimp only [ktrTop] at *); omega)))
  (k_with "getMethod ref#" => ((fail_if_success k_extra "off j32"); (k_here; (with_reducible show wpAny _ _ (getMethod (Value.ref _) (Str.ofString "get") _) _ _ _); k_dflt (refine' kdg_method (knd := PySem.intKind _ _) ?k1_q ?k2_q ?k3_q ?_; (case k1_q => k_asm); (case k2_q => k_mem); (case k3_q => k_asm)))))
  (k_with "call builtin:dict.get#" => ((fail_if_success k_extra "off j32"); (k_here; (with_reducible show wpAny _ _ (call (Value.builtin "dict.get") [Value.ref _, Value.int _ _, _]) _ _ _); k_dflt (refine' kdg_get2 (knd := PySem.intKind _ _) ?k1_q ?k2_q ?k3_q ?k4_q (intKind_is _ _ _ _) (some _) ?k5_q ?_; (case k1_q => k_asm); (case k2_q => k_mem); (case k3_q => k_asm); (case k4_q => k_asm); (case k5_q => rfl); (try dsimp only [Option.getD])))))
  (k_with "mine sub" => ((fail_if_success k_extra "off j32"); first | with_reducible assumption | exact (fun _ h9 => h9) | (refine sub_cons ?_; k_extra "mine sub") | (intro p9 hp9; repeat (first | exact hp9 | exact List.mem_append_right _ hp9 | exact List.mem_append_left _ hp9 | refine List.mem_cons_of_mem _ ?_))))
  (k_with "call ref#" => ((fail_if_success k_extra "off j33"); (k_here; (with_reducible show wpAny _ _ (call (Value.ref 84) _ _) _ _ _); k_dflt ((first | (refine' FnR.useI (text_length_ok  ?g_q ?e_q ?sub_q ) ?S_q ?F_q ?N_q ?hd_q ?hu_q ?_)); (case g_q => k_extra "mine rep"); (case N_q => k_asm); (case e_q => with_reducible assumption); (case sub_q => k_extra "mine sub"); (case S_q => first | with_reducible assumption | exact Site.mk (by k_asm) (by k_asm) (by k_asm) (by first | exact rfl | with_reducible assumption)); (case F_q => k_asm); (case hd_q => first | exact room (by with_reducible assumption) rfl | ktr_room); (case hu_q => first | exact unitsL (by with_reducible assumption) rfl | ktr_units); intro h9 tk9 F9 N9 t9; (try k_sweep)))))
  (k_with "call ref#" => ((fail_if_success k_extra "off j33"); (k_here; (with_reducible show wpAny _ _ (call (Value.ref 77) _ _) _ _ _); k_dflt ((first | (refine' FnR.useI (own_length_ok  ?g_q ?e_q ?sub_q ) ?S_q ?F_q ?N_q ?hd_q ?hu_q ?_)); (case g_q => k_extra "mine rep"); (case N_q => k_asm); (case e_q => with_reducible assumption); (case sub_q => k_extra "mine sub"); (case S_q => first | with_reducible assumption | exact Site.mk (by k_asm) (by k_asm) (by k_asm) (by first | exact rfl | with_reducible assumption)); (case F_q => k_asm); (case hd_q => first | exact room (by with_reducible assumption) rfl | ktr_room); (case hu_q => first | exact unitsL (by with_reducible assumption) rfl | ktr_units); intro h9 tk9 F9 N9 t9; (try k_sweep)))))
  (k_with "call ref#" => ((fail_if_success k_extra "off j33"); (k_here; (with_reducible show wpAny _ _ (call (Value.ref 182) _ _) _ _ _); k_dflt ((first | (refine' FnR.useV (following_ok  ?g_q ?e_q ?sub_q ) ?S_q ?F_q ?N_q ?hd_q ?hu_q ?_)); (case g_q => k_extra "mine rep"); (case N_q => k_asm); (case e_q => with_reducible assumption); (case sub_q => k_extra "mine sub"); (case S_q => first | with_reducible assumption | exact Site.mk (by k_asm) (by k_asm) (by k_asm) (by first | exact rfl | with_reducible assumption)); (case F_q => k_asm); (case hd_q => first | exact room (by with_reducible assumption) rfl | ktr_room); (case hu_q => first | exact unitsL (by with_reducible assumption) rfl | ktr_units); intro h9 tk9 F9 N9; (try dsimp only [optV]); (try k_sweep)))))
  (k_with "call ref#" => ((fail_if_success k_extra "off j33"); (k_here; (with_reducible show wpAny _ _ (call (Value.ref 189) _ _) _ _ _); k_dflt ((first | (refine' FnR.useV (preceding_ok  ?g_q ?e_q ?sub_q ) ?S_q ?F_q ?N_q ?hd_q ?hu_q ?_)); (case g_q => k_extra "mine rep"); (case N_q => k_asm); (case e_q => with_reducible assumption); (case sub_q => k_extra "mine sub"); (case S_q => first | with_reducible assumption | exact Site.mk (by k_asm) (by k_asm) (by k_asm) (by first | exact rfl | with_reducible assumption)); (case F_q => k_asm); (case hd_q => first | exact room (by with_reducible assumption) rfl | ktr_room); (case hu_q => first | exact unitsL (by with_reducible assumption) rfl | ktr_units); intro h9 tk9 F9 N9; (try dsimp only [optV]); (try k_sweep)))))
  (k_with "call ref#" => ((fail_if_success k_extra "off j33"); (k_here; (with_reducible show wpAny _ _ (call (Value.ref 161) _ _) _ _ _); k_dflt ((refine' FnX.useT (find_interval_ok ?G_q ?hr_q ?e_q ?sub_q) ?S_q ?F_q ?N_q ?hd_q ?hu_q ?_; (case N_q => k_asm); (case G_q => k_extra "mine rep"); (case hr_q => with_reducible assumption); (case e_q => with_reducible assumption); (case sub_q => k_extra "mine sub")); (case S_q => first | with_reducible assumption | exact Site.mk (by k_asm) (by k_asm) (by k_asm) (by first | exact rfl | with_reducible assumption)); (case F_q => k_asm); (case hd_q => first | exact room (by with_reducible assumption) rfl | ktr_room); (case hu_q => first | exact unitsL (by with_reducible assumption) rfl | ktr_units); intro q9 t9 h9 tk9 F9 N9 hl9; (try k_sweep)))))
  (k_with "call ref#" => ((fail_if_success k_extra "off j33"); (k_here; (with_reducible show wpAny _ _ (call (Value.ref 259) _ _) _ _ _); k_dflt ((first | (refine' FnR.useV (same_plist_ok  ?ha_q ?hb_q ?hza_q ?hzb_q ?wa_q ?wb_q) ?S_q ?F_q ?N_q ?hd_q ?hu_q ?_; (case N_q => k_asm); (case ha_q => k_extra "mine pl"); (case hb_q => k_extra "mine pl"); (case hza_q => first | with_reducible assumption | omega); (case hzb_q => first | with_reducible assumption | omega); (case wa_q => with_reducible assumption); (case wb_q => with_reducible assumption))); (case S_q => first | with_reducible assumption | exact Site.mk (by k_asm) (by k_asm) (by k_asm) (by first | exact rfl | with_reducible assumption)); (case F_q => k_asm); (case hd_q => first | exact room (by with_reducible assumption) rfl | ktr_room); (case hu_q => first | exact unitsL (by with_reducible assumption) rfl | ktr_units); intro h9 tk9 F9 N9; (try k_sweep)))))
  (k_with "call ref#" => ((fail_if_success k_extra "off j33"); (k_here; (with_reducible show wpAny _ _ (call (Value.ref 231) _ _) _ _ _); k_dflt ((first | (refine' FnR.useV (eq_ok  ?hx_q ?hy_q ?hs_q) ?S_q ?F_q ?N_q ?hd_q ?hu_q ?_; (case N_q => k_asm); (case hx_q => k_extra "mine pv"); (case hy_q => k_extra "mine pv"); (case hs_q => with_reducible assumption))); (case S_q => first | with_reducible assumption | exact Site.mk (by k_asm) (by k_asm) (by k_asm) (by first | exact rfl | with_reducible assumption)); (case F_q => k_asm); (case hd_q => first | exact room (by with_reducible assumption) rfl | ktr_room); (case hu_q => first | exact unitsL (by with_reducible assumption) rfl | ktr_units); intro h9 tk9 F9 N9; (try k_sweep)))))
  (k_with "call ref#" => ((fail_if_success k_extra "off j33"); (k_here; (with_reducible show wpAny _ _ (call (Value.ref 294) _ _) _ _ _); k_dflt ((first | (refine' FnR.use (value_in_ok  ?H_q ?hp_q ?wf_q ?hz_q ?hk9_q) ?S_q ?F_q ?N_q ?hd_q ?hu_q ?_; (case N_q => k_asm); (case H_q => k_extra "mine rules"); (case hp_q => k_extra "mine pl"); (case wf_q => with_reducible assumption); (case hz_q => first | with_reducible assumption | omega); (case hk9_q => first | with_reducible assumption | decide | omega))); (case S_q => first | with_reducible assumption | exact Site.mk (by k_asm) (by k_asm) (by k_asm) (by first | exact rfl | with_reducible assumption)); (case F_q => k_asm); (case hd_q => first | exact room (by with_reducible assumption) rfl | ktr_room); (case hu_q => first | exact unitsL (by with_reducible assumption) rfl | ktr_units); intro r9 h9 tk9 F9 N9 post9; skip; (try dsimp only); (try k_sweep)))))
  trivial
theorem previous_change_none_ok {props : Addr} {ioc : Ioc} {at_ limit : Int} {ta tl : Tok} (H : Tx w.params news props ioc) (ha : at_ ≤ 0) : FnR prog w 17 399 [.ref props, .int at_ ta, .int limit tl] news (fun r => r = .none) := by
  obtain ⟨⟨S, tr, dtr, dp, σ, G, sub, hP, hT⟩, ok, g, hl⟩ := H
  have htot := hT.total
  (first | with_reducible refine FnR.intro ?_ | with_reducible refine FnX.intro ?_ | with_reducible refine FnM.intro ?_ | with_reducible refine @Mine.FnS.intro _ _ _ _ _ _ _ _ _ _ ?_)
  intro p loose mean mg mb dp un gd cn cs a9 ccd cl outer A₀ base h₀ L m hp gn dr tk0 os Q E B X T hk F N hd hu hret
  refine enter [(Str.ofString "props", .ref props), (Str.ofString "at", .int at_ ta), (Str.ofString "limit", .int limit tl)] B F X N T rfl rfl hk (by k_is) (by k_is) (by ((conv => lhs; whnf); all_goals exact rfl)) (by ((conv => lhs; whnf); all_goals exact rfl)) (by ktr_room) (BindsTo.of_eq rfl) (locs rfl) ?_ rfl rfl rfl (by decide)
  intro g' L' h' FG' F' N' B' X' T'
  (try dsimp only)
  (try k_fold)
  refine fold_A ?_
  intro en9 ak9 hAu9
  have S9 : Site w ak9 (dp + 1) (un + 3) g' L' := Site.mk B' X' T' rfl
  k_extra "mine steps"
  first | exact hret _ _ _ (by k_asm) (by k_extra "mine drop") rfl | w_report
theorem previous_change_ok {props : Addr} {pre post : Ioc} {x : It} {c : Pl} {at_ limit : Int} {ta tl : Tok} (H : Tx w.params news props (pre ++ (x, c) :: post)) (h0 : tots pre ≤ at_ - 1) (h1 : at_ - 1 < tots pre + x.own) :
    FnR prog w 17 399 [.ref props, .int at_ ta, .int limit tl] news (fun r => optI (above limit (scanP (fun c' => samePl c' c) pre.reverse (tots pre))) r) := by
  obtain ⟨⟨S, tr, dtr, dp, σ, G, sub, hP, hT⟩, ok, g, hl⟩ := H
  have htot := hT.total
  simp only [List.map_append, List.map_cons] at hT g
  have hpos : 0 < at_ := by
    have gp : Good (pre.map (·.1)) := fun z hz => g z (by simp only [List.mem_append, List.mem_cons]; exact .inl hz)
    have := gp.owns
    simp only [tots] at h0 h1
    omega
  have hprec0 := Tr.preceding (f := 7) hT (by simp only [List.length_append, List.length_cons, List.length_map] at hl ⊢; omega)
  rw [prec_head] at hprec0
  obtain ⟨a, hr9, hfind⟩ := hT.find_at (k := at_ - 1) (f := 7) g h0 h1 (by simp only [List.length_append, List.length_cons, List.length_map] at hl ⊢; omega)
  obtain ⟨px, wx, cx, lx⟩ := ok (x, c) (by simp)
  obtain ⟨_, _, _, _, hnx⟩ := Tr.node' hT
  (first | with_reducible refine FnR.intro ?_ | with_reducible refine FnX.intro ?_ | with_reducible refine FnM.intro ?_ | with_reducible refine @Mine.FnS.intro _ _ _ _ _ _ _ _ _ _ ?_)
  intro p loose mean mg mb dp un gd cn cs a9 ccd cl outer A₀ base h₀ L m hp gn dr tk0 os Q E B X T hk F N hd hu hret
  refine enter [(Str.ofString "props", .ref props), (Str.ofString "at", .int at_ ta), (Str.ofString "limit", .int limit tl)] B F X N T rfl rfl hk (by k_is) (by k_is) (by ((conv => lhs; whnf); all_goals exact rfl)) (by ((conv => lhs; whnf); all_goals exact rfl)) (by ktr_room) (BindsTo.of_eq rfl) (locs rfl) ?_ rfl rfl rfl (by decide)
  intro g' L' h' FG' F' N' B' X' T'
  (try dsimp only)
  (try k_fold)
  refine fold_A ?_
  intro en9 ak9 hAu9
  have S9 : Site w ak9 (dp + 1) (un + 3) g' L' := Site.mk B' X' T' rfl
  k_extra "mine steps"
  refine whl_J (PcJ pre c (scanP (fun c' => samePl c' c) pre.reverse (tots pre)) x.pl limit tl news) (by k_asm) (by k_extra "mine drop1") (pre.reverse.length + 1) ⟨[], pre.reverse, _, _, rfl, by simp, Nat.lt_succ_self _, rfl, by k_extra "mine look", by k_extra "mine look", by k_extra "mine look", by k_extra "mine look"⟩ ?_
  intro P9
  rintro k m₁ nx h tk G9 g9 ⟨pas, rest, b, tb, rfl, hio, hlen, hscan, hm1, hm2, hm3, hm4⟩ F' N'
  cases rest with
  | nil =>
    dsimp only [List.head?_nil, Option.map_none, optV] at hm1
    refine g9 ?_
    k_extra "mine steps"
    exact hret _ _ _ (by k_asm) (by k_extra "mine drop") (by rw [← hscan]; rfl)
  | cons zc rest =>
    obtain ⟨z, cz⟩ := zc
    dsimp only [List.head?_cons, Option.map_some, optV] at hm1
    have hT2 : Tr σ (rest.reverse.map (·.1) ++ z :: (pas.map (·.1) ++ x :: post.map (·.1))) := by
      have e : pre.map (·.1) ++ x :: post.map (·.1) = rest.reverse.map (·.1) ++ z :: (pas.map (·.1) ++ x :: post.map (·.1)) := by rw [hio]; simp
      rw [← e]
      exact hT
    have hz := Tr.node' hT2
    obtain ⟨_, _, _, _, hnz⟩ := hz
    have hown := Tr.own hT2
    have hfol := Tr.preceding (f := 7) hT2 (by
      have := congrArg List.length hio
      simp only [List.length_append, List.length_cons, List.length_map, List.length_reverse] at hl this ⊢
      omega)
    rw [prec_head, List.reverse_reverse] at hfol
    obtain ⟨pz, wz, cz9, lz⟩ := ok (z, cz) (by rw [hio]; simp)
    dsimp only at pz wz cz9 lz
    refine g9 ?_
    k_extra "mine steps"
    · exact LoopJ.again (by k_asm) (by k_asm) hlen ⟨(z, cz) :: pas, rest, _, _, rfl, by rw [hio]; simp, Nat.lt_succ_self _, by rw [← hscan]; exact (scanP_on (f := fun c' => samePl c' c) (by assumption)).symm, by k_extra "mine look", by k_extra "mine look", by k_extra "mine look", by k_extra "mine look"⟩
    · exact hret _ _ _ (by k_asm) (by k_extra "mine drop") (by rw [← hscan, scanP_stop (f := fun c' => samePl c' c) (by assumption), above_none (by assumption)]; rfl)
    · exact hret _ _ _ (by k_asm) (by k_extra "mine drop") (by rw [← hscan, scanP_stop (f := fun c' => samePl c' c) (by assumption), above_some (by assumption)]; exact ⟨_, rfl⟩)
end
end TV4

section TV5
open PySem PySem.W PyProof.Rows PySem.Calls PySem.Spec
set_option maxRecDepth 100000
set_option maxHeartbeats 2000000

section
variable {prog : Program} {w : World} {news : Led}
inductive PsJ (pre : Ioc) (f : Pl → Bool) (tgt : Option Int) (rules : Addr) (number : Int) (tn : Tok) (v : Value) (limit : Int) (tl : Tok) (news : Led) (k : Nat) (m : Str → Option Value) (nx : Led) : Prop
  | mk (pas rest : Ioc) (b : Int) (tb : Tok) (hx : news = nx) (hio : pre = rest.reverse ++ pas) (hlen : rest.length < k) (hscan : scanP f rest b = tgt) (hm1 : m (Str.ofString "node") = some (optV (rest.head?.map fun p => p.1.a))) (hm2 : m (Str.ofString "begin") = some (.int b tb)) (hm3 : m (Str.ofString "value") = some v) (hm4 : m (Str.ofString "rules") = some (.ref rules)) (hm5 : m (Str.ofString "number") = some (.int number tn)) (hm6 : m (Str.ofString "limit") = some (.int limit tl))
theorem lnj54 : True := by
  (k_with "off j33" => skip)
  (k_with "off j32" => skip)
  (k_with "mine rules" => ((fail_if_success k_extra "off j34"); first | with_reducible assumption | exact HasRules.mono (by with_reducible assumption) (by k_extra "mine sub")))
  (k_with "mine props" => ((fail_if_success k_extra "off j34"); first | with_reducible assumption | exact HasProps.mono (by with_reducible assumption) (by k_extra "mine sub")))
  (k_with "getAttr ref#" => ((fail_if_success k_extra "off j34"); (k_here; (with_reducible show wpAny _ _ (getAttr (Value.ref _) (Str.ofString "tree") _) _ _ _); k_dflt (refine' get_tree ?k1_q ?k2_q ?k3_q ?k4_q ?_; (case k1_q => k_asm); (case k2_q => k_asm); (case k3_q => k_asm); (case k4_q => k_extra "mine props")))))
  (k_with "mine units" => ((fail_if_success k_extra "off j34"); (have hcL9 := cLine_is; (try simp only [units_under_make, units_in1, units_deeper, Around.mark_units, units_caller] at *); (try dsimp only [ktrTop] at *); omega)))
  (k_with "getMethod ref#" => ((fail_if_success k_extra "off j34"); (k_here; (with_reducible show wpAny _ _ (getMethod (Value.ref _) (Str.ofString "get") _) _ _ _); k_dflt (refine' kdg_method (knd := PySem.intKind _ _) ?k1_q ?k2_q ?k3_q ?_; (case k1_q => k_asm); (case k2_q => k_mem); (case k3_q => k_asm)))))
  (k_with "call builtin:dict.get#" => ((fail_if_success k_extra "off j34"); (k_here; (with_reducible show wpAny _ _ (call (Value.builtin "dict.get") [Value.ref _, Value.int _ _, _]) _ _ _); k_dflt (refine' kdg_get2 (knd := PySem.intKind _ _) ?k1_q ?k2_q ?k3_q ?k4_q (intKind_is _ _ _ _) (some _) ?k5_q ?_; (case k1_q => k_asm); (case k2_q => k_mem); (case k3_q => k_asm); (case k4_q => k_asm); (case k5_q => rfl); (try dsimp only [Option.getD])))))
  (k_with "mine sub" => ((fail_if_success k_extra "off j34"); first | with_reducible assumption | exact (fun _ h9 => h9) | (refine sub_cons ?_; k_extra "mine sub") | (intro p9 hp9; repeat (first | exact hp9 | exact List.mem_append_right _ hp9 | exact List.mem_append_left _ hp9 | refine List.mem_cons_of_mem _ ?_))))
  (k_with "call ref#" => ((fail_if_success k_extra "off j35"); (k_here; (with_reducible show wpAny _ _ (call (Value.ref 84) _ _) _ _ _); k_dflt ((first | (refine' FnR.useI (text_length_ok  ?g_q ?e_q ?sub_q ) ?S_q ?F_q ?N_q ?hd_q ?hu_q ?_)); (case g_q => k_extra "mine rep"); (case N_q => k_asm); (case e_q => with_reducible assumption); (case sub_q => k_extra "mine sub"); (case S_q => first | with_reducible assumption | exact Site.mk (by k_asm) (by k_asm) (by k_asm) (by first | exact rfl | with_reducible assumption)); (case F_q => k_asm); (case hd_q => first | exact room (by with_reducible assumption) rfl | ktr_room); (case hu_q => first | exact unitsL (by with_reducible assumption) rfl | ktr_units); intro h9 tk9 F9 N9 t9; (try k_sweep)))))
  (k_with "call ref#" => ((fail_if_success k_extra "off j35"); (k_here; (with_reducible show wpAny _ _ (call (Value.ref 77) _ _) _ _ _); k_dflt ((first | (refine' FnR.useI (own_length_ok  ?g_q ?e_q ?sub_q ) ?S_q ?F_q ?N_q ?hd_q ?hu_q ?_)); (case g_q => k_extra "mine rep"); (case N_q => k_asm); (case e_q => with_reducible assumption); (case sub_q => k_extra "mine sub"); (case S_q => first | with_reducible assumption | exact Site.mk (by k_asm) (by k_asm) (by k_asm) (by first | exact rfl | with_reducible assumption)); (case F_q => k_asm); (case hd_q => first | exact room (by with_reducible assumption) rfl | ktr_room); (case hu_q => first | exact unitsL (by with_reducible assumption) rfl | ktr_units); intro h9 tk9 F9 N9 t9; (try k_sweep)))))
  (k_with "call ref#" => ((fail_if_success k_extra "off j35"); (k_here; (with_reducible show wpAny _ _ (call (Value.ref 182) _ _) _ _ _); k_dflt ((first | (refine' FnR.useV (following_ok  ?g_q ?e_q ?sub_q ) ?S_q ?F_q ?N_q ?hd_q ?hu_q ?_)); (case g_q => k_extra "mine rep"); (case N_q => k_asm); (case e_q => with_reducible assumption); (case sub_q => k_extra "mine sub"); (case S_q => first | with_reducible assumption | exact Site.mk (by k_asm) (by k_asm) (by k_asm) (by first | exact rfl | with_reducible assumption)); (case F_q => k_asm); (case hd_q => first | exact room (by with_reducible assumption) rfl | ktr_room); (case hu_q => first | exact unitsL (by with_reducible assumption) rfl | ktr_units); intro h9 tk9 F9 N9; (try dsimp only [optV]); (try k_sweep)))))
  (k_with "call ref#" => ((fail_if_success k_extra "off j35"); (k_here; (with_reducible show wpAny _ _ (call (Value.ref 189) _ _) _ _ _); k_dflt ((first | (refine' FnR.useV (preceding_ok  ?g_q ?e_q ?sub_q ) ?S_q ?F_q ?N_q ?hd_q ?hu_q ?_)); (case g_q => k_extra "mine rep"); (case N_q => k_asm); (case e_q => with_reducible assumption); (case sub_q => k_extra "mine sub"); (case S_q => first | with_reducible assumption | exact Site.mk (by k_asm) (by k_asm) (by k_asm) (by first | exact rfl | with_reducible assumption)); (case F_q => k_asm); (case hd_q => first | exact room (by with_reducible assumption) rfl | ktr_room); (case hu_q => first | exact unitsL (by with_reducible assumption) rfl | ktr_units); intro h9 tk9 F9 N9; (try dsimp only [optV]); (try k_sweep)))))
  (k_with "call ref#" => ((fail_if_success k_extra "off j35"); (k_here; (with_reducible show wpAny _ _ (call (Value.ref 161) _ _) _ _ _); k_dflt ((refine' FnX.useT (find_interval_ok ?G_q ?hr_q ?e_q ?sub_q) ?S_q ?F_q ?N_q ?hd_q ?hu_q ?_; (case N_q => k_asm); (case G_q => k_extra "mine rep"); (case hr_q => with_reducible assumption); (case e_q => with_reducible assumption); (case sub_q => k_extra "mine sub")); (case S_q => first | with_reducible assumption | exact Site.mk (by k_asm) (by k_asm) (by k_asm) (by first | exact rfl | with_reducible assumption)); (case F_q => k_asm); (case hd_q => first | exact room (by with_reducible assumption) rfl | ktr_room); (case hu_q => first | exact unitsL (by with_reducible assumption) rfl | ktr_units); intro q9 t9 h9 tk9 F9 N9 hl9; (try k_sweep)))))
  (k_with "call ref#" => ((fail_if_success k_extra "off j35"); (k_here; (with_reducible show wpAny _ _ (call (Value.ref 259) _ _) _ _ _); k_dflt ((first | (refine' FnR.useV (same_plist_ok  ?ha_q ?hb_q ?hza_q ?hzb_q ?wa_q ?wb_q) ?S_q ?F_q ?N_q ?hd_q ?hu_q ?_; (case N_q => k_asm); (case ha_q => k_extra "mine pl"); (case hb_q => k_extra "mine pl"); (case hza_q => first | with_reducible assumption | omega); (case hzb_q => first | with_reducible assumption | omega); (case wa_q => with_reducible assumption); (case wb_q => with_reducible assumption))); (case S_q => first | with_reducible assumption | exact Site.mk (by k_asm) (by k_asm) (by k_asm) (by first | exact rfl | with_reducible assumption)); (case F_q => k_asm); (case hd_q => first | exact room (by with_reducible assumption) rfl | ktr_room); (case hu_q => first | exact unitsL (by with_reducible assumption) rfl | ktr_units); intro h9 tk9 F9 N9; (try k_sweep)))))
  (k_with "call ref#" => ((fail_if_success k_extra "off j35"); (k_here; (with_reducible show wpAny _ _ (call (Value.ref 231) _ _) _ _ _); k_dflt ((first | (refine' FnR.useV (eq_ok  ?hx_q ?hy_q ?hs_q) ?S_q ?F_q ?N_q ?hd_q ?hu_q ?_; (case N_q => k_asm); (case hx_q => k_extra "mine pv"); (case hy_q => k_extra "mine pv"); (case hs_q => with_reducible assumption))); (case S_q => first | with_reducible assumption | exact Site.mk (by k_asm) (by k_asm) (by k_asm) (by first | exact rfl | with_reducible assumption)); (case F_q => k_asm); (case hd_q => first | exact room (by with_reducible assumption) rfl | ktr_room); (case hu_q => first | exact unitsL (by with_reducible assumption) rfl | ktr_units); intro h9 tk9 F9 N9; (try k_sweep)))))
  (k_with "call ref#" => ((fail_if_success k_extra "off j35"); (k_here; (with_reducible show wpAny _ _ (call (Value.ref 294) _ _) _ _ _); k_dflt ((first | (refine' FnR.use (value_in_ok  ?H_q ?hp_q ?wf_q ?hz_q ?hk9_q) ?S_q ?F_q ?N_q ?hd_q ?hu_q ?_; (case N_q => k_asm); (case H_q => k_extra "mine rules"); (case hp_q => k_extra "mine pl"); (case wf_q => with_reducible assumption); (case hz_q => first | with_reducible assumption | omega); (case hk9_q => first | with_reducible assumption | decide | omega))); (case S_q => first | with_reducible assumption | exact Site.mk (by k_asm) (by k_asm) (by k_asm) (by first | exact rfl | with_reducible assumption)); (case F_q => k_asm); (case hd_q => first | exact room (by with_reducible assumption) rfl | ktr_room); (case hu_q => first | exact unitsL (by with_reducible assumption) rfl | ktr_units); intro r9 h9 tk9 F9 N9 post9; skip; (try dsimp only); (try k_sweep)))))
  trivial
theorem previous_single_none_ok {props : Addr} {ioc : Ioc} {at_ limit number : Int} {ta tl tn : Tok} {rules : Addr} {held : PV} (HR : HasRules w.params news rules held) (hk9 : number ≠ 100) (H : Tx w.params news props ioc) (ha : at_ ≤ 0) : FnR prog w 17 406 [.ref props, .ref rules, .int at_ ta, .int number tn, .int limit tl] news (fun r => r = .none) := by
  obtain ⟨⟨S, tr, dtr, dp, σ, G, sub, hP, hT⟩, ok, g, hl⟩ := H
  have htot := hT.total
  (first | with_reducible refine FnR.intro ?_ | with_reducible refine FnX.intro ?_ | with_reducible refine FnM.intro ?_ | with_reducible refine @Mine.FnS.intro _ _ _ _ _ _ _ _ _ _ ?_)
  intro p loose mean mg mb dp un gd cn cs a9 ccd cl outer A₀ base h₀ L m hp gn dr tk0 os Q E B X T hk F N hd hu hret
  refine enter [(Str.ofString "props", .ref props), (Str.ofString "rules", .ref rules), (Str.ofString "at", .int at_ ta), (Str.ofString "number", .int number tn), (Str.ofString "limit", .int limit tl)] B F X N T rfl rfl hk (by k_is) (by k_is) (by ((conv => lhs; whnf); all_goals exact rfl)) (by ((conv => lhs; whnf); all_goals exact rfl)) (by ktr_room) (BindsTo.of_eq rfl) (locs rfl) ?_ rfl rfl rfl (by decide)
  intro g' L' h' FG' F' N' B' X' T'
  (try dsimp only)
  (try k_fold)
  refine fold_A ?_
  intro en9 ak9 hAu9
  have S9 : Site w ak9 (dp + 1) (un + 3) g' L' := Site.mk B' X' T' rfl
  k_extra "mine steps"
  first | exact hret _ _ _ (by k_asm) (by k_extra "mine drop") rfl | w_report
theorem previous_single_ok {props : Addr} {pre post : Ioc} {x : It} {c : Pl} {at_ limit number : Int} {ta tl tn : Tok} {rules : Addr} {held : PV} (HR : HasRules w.params news rules held) (hk9 : number ≠ 100) (H : Tx w.params news props (pre ++ (x, c) :: post)) (h0 : tots pre ≤ at_ - 1) (h1 : at_ - 1 < tots pre + x.own) :
    FnR prog w 17 406 [.ref props, .ref rules, .int at_ ta, .int number tn, .int limit tl] news (fun r => optI (above limit (scanP (fun c' => pvEq (valIn c' number held) (valIn c number held)) pre.reverse (tots pre))) r) := by
  obtain ⟨⟨S, tr, dtr, dp, σ, G, sub, hP, hT⟩, ok, g, hl⟩ := H
  have htot := hT.total
  simp only [List.map_append, List.map_cons] at hT g
  have hpos : 0 < at_ := by
    have gp : Good (pre.map (·.1)) := fun z hz => g z (by simp only [List.mem_append, List.mem_cons]; exact .inl hz)
    have := gp.owns
    simp only [tots] at h0 h1
    omega
  have hprec0 := Tr.preceding (f := 7) hT (by simp only [List.length_append, List.length_cons, List.length_map] at hl ⊢; omega)
  rw [prec_head] at hprec0
  obtain ⟨a, hr9, hfind⟩ := hT.find_at (k := at_ - 1) (f := 7) g h0 h1 (by simp only [List.length_append, List.length_cons, List.length_map] at hl ⊢; omega)
  obtain ⟨px, wx, cx, lx⟩ := ok (x, c) (by simp)
  dsimp only at px wx cx lx
  obtain ⟨_, _, _, _, hnx⟩ := Tr.node' hT
  have hsx := valIn_sym wx hk9 HR.sym
  have hlx : c.length ≤ 4000000 := Nat.le_trans lx (by decide)
  (first | with_reducible refine FnR.intro ?_ | with_reducible refine FnX.intro ?_ | with_reducible refine FnM.intro ?_ | with_reducible refine @Mine.FnS.intro _ _ _ _ _ _ _ _ _ _ ?_)
  intro p loose mean mg mb dp un gd cn cs a9 ccd cl outer A₀ base h₀ L m hp gn dr tk0 os Q E B X T hk F N hd hu hret
  refine enter [(Str.ofString "props", .ref props), (Str.ofString "rules", .ref rules), (Str.ofString "at", .int at_ ta), (Str.ofString "number", .int number tn), (Str.ofString "limit", .int limit tl)] B F X N T rfl rfl hk (by k_is) (by k_is) (by ((conv => lhs; whnf); all_goals exact rfl)) (by ((conv => lhs; whnf); all_goals exact rfl)) (by ktr_room) (BindsTo.of_eq rfl) (locs rfl) ?_ rfl rfl rfl (by decide)
  intro g' L' h' FG' F' N' B' X' T'
  (try dsimp only)
  (try k_fold)
  refine fold_A ?_
  intro en9 ak9 hAu9
  have S9 : Site w ak9 (dp + 1) (un + 3) g' L' := Site.mk B' X' T' rfl
  k_extra "mine steps"
  refine whl_J (PsJ pre (fun c' => pvEq (valIn c' number held) (valIn c number held)) (scanP (fun c' => pvEq (valIn c' number held) (valIn c number held)) pre.reverse (tots pre)) rules number tn r9 limit tl news) (by k_asm) (by k_extra "mine drop1") (pre.reverse.length + 1) ⟨[], pre.reverse, _, _, rfl, by simp, Nat.lt_succ_self _, rfl, by k_extra "mine look", by k_extra "mine look", by k_extra "mine look", by k_extra "mine look", by k_extra "mine look", by k_extra "mine look"⟩ ?_
  intro P9
  rintro k m₁ nx h tk G9 g9 ⟨pas, rest, b, tb, rfl, hio, hlen, hscan, hm1, hm2, hm3, hm4, hm5, hm6⟩ F' N'
  cases rest with
  | nil =>
    dsimp only [List.head?_nil, Option.map_none, optV] at hm1
    refine g9 ?_
    k_extra "mine steps"
    exact hret _ _ _ (by k_asm) (by k_extra "mine drop") (by rw [← hscan]; rfl)
  | cons zc rest =>
    obtain ⟨z, cz⟩ := zc
    dsimp only [List.head?_cons, Option.map_some, optV] at hm1
    have hT2 : Tr σ (rest.reverse.map (·.1) ++ z :: (pas.map (·.1) ++ x :: post.map (·.1))) := by
      have e : pre.map (·.1) ++ x :: post.map (·.1) = rest.reverse.map (·.1) ++ z :: (pas.map (·.1) ++ x :: post.map (·.1)) := by rw [hio]; simp
      rw [← e]
      exact hT
    have hz := Tr.node' hT2
    obtain ⟨_, _, _, _, hnz⟩ := hz
    have hown := Tr.own hT2
    have hfol := Tr.preceding (f := 7) hT2 (by
      have := congrArg List.length hio
      simp only [List.length_append, List.length_cons, List.length_map, List.length_reverse] at hl this ⊢
      omega)
    rw [prec_head, List.reverse_reverse] at hfol
    obtain ⟨pz, wz, cz9, lz⟩ := ok (z, cz) (by rw [hio]; simp)
    dsimp only at pz wz cz9 lz
    have hse : (valIn cz number held).isSym = (valIn c number held).isSym := by rw [hsx, valIn_sym wz hk9 HR.sym]
    have hlz : cz.length ≤ 4000000 := Nat.le_trans lz (by decide)
    refine g9 ?_
    k_extra "mine steps"
    · exact LoopJ.again (by k_asm) (by k_asm) hlen ⟨(z, cz) :: pas, rest, _, _, rfl, by rw [hio]; simp, Nat.lt_succ_self _, by rw [← hscan]; exact (scanP_on (f := fun c' => pvEq (valIn c' number held) (valIn c number held)) (by assumption)).symm, by k_extra "mine look", by k_extra "mine look", by k_extra "mine look", by k_extra "mine look", by k_extra "mine look", by k_extra "mine look"⟩
    · exact hret _ _ _ (by k_asm) (by k_extra "mine drop") (by rw [← hscan, scanP_stop (f := fun c' => pvEq (valIn c' number held) (valIn c number held)) (by assumption), above_none (by assumption)]; rfl)
    · exact hret _ _ _ (by k_asm) (by k_extra "mine drop") (by rw [← hscan, scanP_stop (f := fun c' => pvEq (valIn c' number held) (valIn c number held)) (by assumption), above_some (by assumption)]; exact ⟨_, rfl⟩)
end
end TV5

section TV6
open PySem PySem.W PyProof.Rows PySem.Calls PySem.Spec
set_option maxRecDepth 100000
set_option maxHeartbeats 2000000

inductive SegI (T : Led) : List Value → List (Int × Pl) → Prop
  | nil : SegI T [] []
  | cons {vs : List Value} {l : List (Int × Pl)} {q pl : Addr} {f e : Int} {t t2 : Tok} {c : Pl} : (q, tupObj [.int f t, .int e t2, .ref pl]) ∈ T → IsPl T pl c → WfPl c → c.length ≤ 3 → SegI T vs l → SegI T (.ref q :: vs) ((f, c) :: l)
theorem lnj55 : True := by
  (k_with "off j35" => skip)
  (k_with "off j34" => skip)
  trivial
theorem SegI.mono {T T' : Led} {vs : List Value} {l : List (Int × Pl)} (h : SegI T vs l) (s : ∀ p ∈ T, p ∈ T') : SegI T' vs l := by
  induction h with
  | nil => exact .nil
  | cons a b c d _ ih => exact .cons (s _ a) (b.mono s) c d ih
theorem SegI.snoc {T : Led} {vs : List Value} {l : List (Int × Pl)} (h : SegI T vs l) {q pl : Addr} {f e : Int} {t t2 : Tok} {c : Pl} (a : (q, tupObj [.int f t, .int e t2, .ref pl]) ∈ T) (b : IsPl T pl c) (w : WfPl c) (d : c.length ≤ 3) : SegI T (vs ++ [.ref q]) (l ++ [(f, c)]) := by
  induction h with
  | nil => exact .cons a b w d .nil
  | cons a b c d _ ih => exact .cons a b c d ih
/-- the runs from b on, the first cut at begin -/
noncomputable def segs (begin : Int) : Ioc → Int → List (Int × Pl)
  | [], _ => []
  | (z, c) :: r, b => (if begin > b then begin else b, c) :: segs begin r (b + z.own)
theorem News.swap {h₀ h : Heap} {L : Addr} {a b : Addr × Obj} {l : Led} (N : News h₀ L h (a :: b :: l)) : News h₀ L h (b :: a :: l) := fun p hp => N p (by
  rcases List.mem_cons.mp hp with rfl | hp
  · exact List.mem_cons_of_mem _ List.mem_cons_self
  · rcases List.mem_cons.mp hp with rfl | hp
    · exact List.mem_cons_self
    · exact List.mem_cons_of_mem _ (List.mem_cons_of_mem _ hp))
section
variable {prog : Program} {w : World} {news : Led}
inductive RbJ (io : Ioc) (tgt : List (Int × Pl)) (fl : Addr) (begin : Int) (ta : Tok) (end_ : Int) (tl : Tok) (news : Led) (k : Nat) (m : Str → Option Value) (nx : Led) : Prop
  | mk (pas rest : Ioc) (b : Int) (vs : List Value) (n : Nat) (xx : Led) (done : List (Int × Pl)) (tb : Tok) (hx : nx = (fl, listOf vs.toArray n) :: (xx ++ news)) (hio : io = pas ++ rest) (hlen : rest.length < k) (hseg : SegI (xx ++ news) vs done) (hsegs : tgt = done ++ segs begin rest b) (hb : b = tots pas) (hvl : vs.length + rest.length ≤ 100) (hfl : ∀ p ∈ xx ++ news, p.1 ≠ fl) (hm1 : m (Str.ofString "node") = some (optV (rest.head?.map fun p => p.1.a))) (hm2 : m (Str.ofString "first") = some (.int b tb)) (hm3 : m (Str.ofString "found") = some (.ref fl)) (hm4 : m (Str.ofString "begin") = some (.int begin ta)) (hm5 : m (Str.ofString "end") = some (.int end_ tl))
theorem lnj56 : True := by
  (k_with "mine rules" => ((fail_if_success k_extra "off j36"); first | with_reducible assumption | exact HasRules.mono (by with_reducible assumption) (by k_extra "mine sub")))
  (k_with "mine props" => ((fail_if_success k_extra "off j36"); first | with_reducible assumption | exact HasProps.mono (by with_reducible assumption) (by k_extra "mine sub")))
  (k_with "getAttr ref#" => ((fail_if_success k_extra "off j36"); (k_here; (with_reducible show wpAny _ _ (getAttr (Value.ref _) (Str.ofString "tree") _) _ _ _); k_dflt (refine' get_tree ?k1_q ?k2_q ?k3_q ?k4_q ?_; (case k1_q => k_asm); (case k2_q => k_asm); (case k3_q => k_asm); (case k4_q => k_extra "mine props")))))
  (k_with "mine units" => ((fail_if_success k_extra "off j36"); (have hcL9 := cLine_is; (try simp only [units_under_make, units_in1, units_deeper, Around.mark_units, units_caller] at *); (try dsimp only [ktrTop] at *); omega)))
  (k_with "getMethod ref#" => ((fail_if_success k_extra "off j36"); (k_here; (with_reducible show wpAny _ _ (getMethod (Value.ref _) (Str.ofString "get") _) _ _ _); k_dflt (refine' kdg_method (knd := PySem.intKind _ _) ?k1_q ?k2_q ?k3_q ?_; (case k1_q => k_asm); (case k2_q => k_mem); (case k3_q => k_asm)))))
  (k_with "call builtin:dict.get#" => ((fail_if_success k_extra "off j36"); (k_here; (with_reducible show wpAny _ _ (call (Value.builtin "dict.get") [Value.ref _, Value.int _ _, _]) _ _ _); k_dflt (refine' kdg_get2 (knd := PySem.intKind _ _) ?k1_q ?k2_q ?k3_q ?k4_q (intKind_is _ _ _ _) (some _) ?k5_q ?_; (case k1_q => k_asm); (case k2_q => k_mem); (case k3_q => k_asm); (case k4_q => k_asm); (case k5_q => rfl); (try dsimp only [Option.getD])))))
  (k_with "mine sub" => ((fail_if_success k_extra "off j36"); first | with_reducible assumption | exact (fun _ h9 => h9) | (refine sub_cons ?_; k_extra "mine sub") | (intro p9 hp9; repeat (first | exact hp9 | exact List.mem_append_right _ hp9 | exact List.mem_append_left _ hp9 | refine List.mem_cons_of_mem _ ?_))))
  (k_with "call ref#" => ((fail_if_success k_extra "off j37"); (k_here; (with_reducible show wpAny _ _ (call (Value.ref 84) _ _) _ _ _); k_dflt ((first | (refine' FnR.useI (text_length_ok  ?g_q ?e_q ?sub_q ) ?S_q ?F_q ?N_q ?hd_q ?hu_q ?_)); (case g_q => k_extra "mine rep"); (case N_q => k_asm); (case e_q => with_reducible assumption); (case sub_q => k_extra "mine sub"); (case S_q => first | with_reducible assumption | exact Site.mk (by k_asm) (by k_asm) (by k_asm) (by first | exact rfl | with_reducible assumption)); (case F_q => k_asm); (case hd_q => first | exact room (by with_reducible assumption) rfl | ktr_room); (case hu_q => first | exact unitsL (by with_reducible assumption) rfl | ktr_units); intro h9 tk9 F9 N9 t9; (try k_sweep)))))
  (k_with "call ref#" => ((fail_if_success k_extra "off j37"); (k_here; (with_reducible show wpAny _ _ (call (Value.ref 77) _ _) _ _ _); k_dflt ((first | (refine' FnR.useI (own_length_ok  ?g_q ?e_q ?sub_q ) ?S_q ?F_q ?N_q ?hd_q ?hu_q ?_)); (case g_q => k_extra "mine rep"); (case N_q => k_asm); (case e_q => with_reducible assumption); (case sub_q => k_extra "mine sub"); (case S_q => first | with_reducible assumption | exact Site.mk (by k_asm) (by k_asm) (by k_asm) (by first | exact rfl | with_reducible assumption)); (case F_q => k_asm); (case hd_q => first | exact room (by with_reducible assumption) rfl | ktr_room); (case hu_q => first | exact unitsL (by with_reducible assumption) rfl | ktr_units); intro h9 tk9 F9 N9 t9; (try k_sweep)))))
  (k_with "call ref#" => ((fail_if_success k_extra "off j37"); (k_here; (with_reducible show wpAny _ _ (call (Value.ref 182) _ _) _ _ _); k_dflt ((first | (refine' FnR.useV (following_ok  ?g_q ?e_q ?sub_q ) ?S_q ?F_q ?N_q ?hd_q ?hu_q ?_)); (case g_q => k_extra "mine rep"); (case N_q => k_asm); (case e_q => with_reducible assumption); (case sub_q => k_extra "mine sub"); (case S_q => first | with_reducible assumption | exact Site.mk (by k_asm) (by k_asm) (by k_asm) (by first | exact rfl | with_reducible assumption)); (case F_q => k_asm); (case hd_q => first | exact room (by with_reducible assumption) rfl | ktr_room); (case hu_q => first | exact unitsL (by with_reducible assumption) rfl | ktr_units); intro h9 tk9 F9 N9; (try dsimp only [optV]); (try k_sweep)))))
  (k_with "call ref#" => ((fail_if_success k_extra "off j37"); (k_here; (with_reducible show wpAny _ _ (call (Value.ref 189) _ _) _ _ _); k_dflt ((first | (refine' FnR.useV (preceding_ok  ?g_q ?e_q ?sub_q ) ?S_q ?F_q ?N_q ?hd_q ?hu_q ?_)); (case g_q => k_extra "mine rep"); (case N_q => k_asm); (case e_q => with_reducible assumption); (case sub_q => k_extra "mine sub"); (case S_q => first | with_reducible assumption | exact Site.mk (by k_asm) (by k_asm) (by k_asm) (by first | exact rfl | with_reducible assumption)); (case F_q => k_asm); (case hd_q => first | exact room (by with_reducible assumption) rfl | ktr_room); (case hu_q => first | exact unitsL (by with_reducible assumption) rfl | ktr_units); intro h9 tk9 F9 N9; (try dsimp only [optV]); (try k_sweep)))))
  (k_with "call ref#" => ((fail_if_success k_extra "off j37"); (k_here; (with_reducible show wpAny _ _ (call (Value.ref 161) _ _) _ _ _); k_dflt ((refine' FnX.useT (find_interval_ok ?G_q ?hr_q ?e_q ?sub_q) ?S_q ?F_q ?N_q ?hd_q ?hu_q ?_; (case N_q => k_asm); (case G_q => k_extra "mine rep"); (case hr_q => with_reducible assumption); (case e_q => with_reducible assumption); (case sub_q => k_extra "mine sub")); (case S_q => first | with_reducible assumption | exact Site.mk (by k_asm) (by k_asm) (by k_asm) (by first | exact rfl | with_reducible assumption)); (case F_q => k_asm); (case hd_q => first | exact room (by with_reducible assumption) rfl | ktr_room); (case hu_q => first | exact unitsL (by with_reducible assumption) rfl | ktr_units); intro q9 t9 h9 tk9 F9 N9 hl9; (try k_sweep)))))
  (k_with "call ref#" => ((fail_if_success k_extra "off j37"); (k_here; (with_reducible show wpAny _ _ (call (Value.ref 259) _ _) _ _ _); k_dflt ((first | (refine' FnR.useV (same_plist_ok  ?ha_q ?hb_q ?hza_q ?hzb_q ?wa_q ?wb_q) ?S_q ?F_q ?N_q ?hd_q ?hu_q ?_; (case N_q => k_asm); (case ha_q => k_extra "mine pl"); (case hb_q => k_extra "mine pl"); (case hza_q => first | with_reducible assumption | omega); (case hzb_q => first | with_reducible assumption | omega); (case wa_q => with_reducible assumption); (case wb_q => with_reducible assumption))); (case S_q => first | with_reducible assumption | exact Site.mk (by k_asm) (by k_asm) (by k_asm) (by first | exact rfl | with_reducible assumption)); (case F_q => k_asm); (case hd_q => first | exact room (by with_reducible assumption) rfl | ktr_room); (case hu_q => first | exact unitsL (by with_reducible assumption) rfl | ktr_units); intro h9 tk9 F9 N9; (try k_sweep)))))
  (k_with "call ref#" => ((fail_if_success k_extra "off j37"); (k_here; (with_reducible show wpAny _ _ (call (Value.ref 231) _ _) _ _ _); k_dflt ((first | (refine' FnR.useV (eq_ok  ?hx_q ?hy_q ?hs_q) ?S_q ?F_q ?N_q ?hd_q ?hu_q ?_; (case N_q => k_asm); (case hx_q => k_extra "mine pv"); (case hy_q => k_extra "mine pv"); (case hs_q => with_reducible assumption))); (case S_q => first | with_reducible assumption | exact Site.mk (by k_asm) (by k_asm) (by k_asm) (by first | exact rfl | with_reducible assumption)); (case F_q => k_asm); (case hd_q => first | exact room (by with_reducible assumption) rfl | ktr_room); (case hu_q => first | exact unitsL (by with_reducible assumption) rfl | ktr_units); intro h9 tk9 F9 N9; (try k_sweep)))))
  (k_with "call ref#" => ((fail_if_success k_extra "off j37"); (k_here; (with_reducible show wpAny _ _ (call (Value.ref 294) _ _) _ _ _); k_dflt ((first | (refine' FnR.use (value_in_ok  ?H_q ?hp_q ?wf_q ?hz_q ?hk9_q) ?S_q ?F_q ?N_q ?hd_q ?hu_q ?_; (case N_q => k_asm); (case H_q => k_extra "mine rules"); (case hp_q => k_extra "mine pl"); (case wf_q => with_reducible assumption); (case hz_q => first | with_reducible assumption | omega); (case hk9_q => first | with_reducible assumption | decide | omega))); (case S_q => first | with_reducible assumption | exact Site.mk (by k_asm) (by k_asm) (by k_asm) (by first | exact rfl | with_reducible assumption)); (case F_q => k_asm); (case hd_q => first | exact room (by with_reducible assumption) rfl | ktr_room); (case hu_q => first | exact unitsL (by with_reducible assumption) rfl | ktr_units); intro r9 h9 tk9 F9 N9 post9; skip; (try dsimp only); (try k_sweep)))))
  trivial
theorem rows_between_none_ok {props : Addr} {begin end_ : Int} {ta tl : Tok} (h : end_ ≤ begin) : FnX prog w 17 378 [.ref props, .int begin ta, .int end_ tl] news (fun r news' => ∃ fl n vs x, r = .ref fl ∧ news' = (fl, listOf vs.toArray n) :: (x ++ news) ∧ SegI (x ++ news) vs []) := by
  (first | with_reducible refine FnR.intro ?_ | with_reducible refine FnX.intro ?_ | with_reducible refine FnM.intro ?_ | with_reducible refine @Mine.FnS.intro _ _ _ _ _ _ _ _ _ _ ?_)
  intro p loose mean mg mb dp un gd cn cs a9 ccd cl outer A₀ base h₀ L m hp gn dr tk0 os Q E B X T hk F N hd hu hret
  refine enter [(Str.ofString "props", .ref props), (Str.ofString "begin", .int begin ta), (Str.ofString "end", .int end_ tl)] B F X N T rfl rfl hk (by k_is) (by k_is) (by ((conv => lhs; whnf); all_goals exact rfl)) (by ((conv => lhs; whnf); all_goals exact rfl)) (by ktr_room) (BindsTo.of_eq rfl) (locs rfl) ?_ rfl rfl rfl (by decide)
  intro g' L' h' FG' F' N' B' X' T'
  (try dsimp only)
  (try k_fold)
  refine fold_A ?_
  intro en9 ak9 hAu9
  have S9 : Site w ak9 (dp + 1) (un + 3) g' L' := Site.mk B' X' T' rfl
  k_extra "mine steps"
  exact hret _ _ _ _ (by k_asm) (by k_asm) ⟨_, _, [], [], rfl, rfl, .nil⟩
theorem rows_between_ok {props : Addr} {pre post : Ioc} {x : It} {c : Pl} {begin end_ : Int} {ta tl : Tok} (H : Tx w.params news props (pre ++ (x, c) :: post)) (h0 : tots pre ≤ begin) (h1 : begin < tots pre + x.own) (he : end_ = tots (pre ++ (x, c) :: post)) :
    FnX prog w 17 378 [.ref props, .int begin ta, .int end_ tl] news (fun r news' => ∃ fl n vs x', r = .ref fl ∧ news' = (fl, listOf vs.toArray n) :: (x' ++ news) ∧ SegI (x' ++ news) vs (segs begin ((x, c) :: post) (tots pre))) := by
  obtain ⟨⟨S, tr, dtr, dp, σ, G, sub, hP, hT⟩, ok, g, hl⟩ := H
  simp only [List.map_append, List.map_cons] at hT g
  have hpos : begin < end_ := by
    have gp : Good (post.map (·.1)) := fun z hz => g z (by simp only [List.mem_append, List.mem_cons]; exact .inr (.inr hz))
    have := gp.owns
    simp only [tots] at h0 h1 he
    simp only [List.map_append, List.map_cons, owns_append, owns_cons] at he
    omega
  obtain ⟨a, hr9, hfind⟩ := hT.find_at (k := begin) (f := 7) g h0 h1 (by simp only [List.length_append, List.length_cons, List.length_map] at hl ⊢; omega)
  (first | with_reducible refine FnR.intro ?_ | with_reducible refine FnX.intro ?_ | with_reducible refine FnM.intro ?_ | with_reducible refine @Mine.FnS.intro _ _ _ _ _ _ _ _ _ _ ?_)
  intro p loose mean mg mb dp un gd cn cs a9 ccd cl outer A₀ base h₀ L m hp gn dr tk0 os Q E B X T hk F N hd hu hret
  refine enter [(Str.ofString "props", .ref props), (Str.ofString "begin", .int begin ta), (Str.ofString "end", .int end_ tl)] B F X N T rfl rfl hk (by k_is) (by k_is) (by ((conv => lhs; whnf); all_goals exact rfl)) (by ((conv => lhs; whnf); all_goals exact rfl)) (by ktr_room) (BindsTo.of_eq rfl) (locs rfl) ?_ rfl rfl rfl (by decide)
  intro g' L' h' FG' F' N' B' X' T'
  (try dsimp only)
  (try k_fold)
  refine fold_A ?_
  intro en9 ak9 hAu9
  have S9 : Site w ak9 (dp + 1) (un + 3) g' L' := Site.mk B' X' T' rfl
  k_extra "mine steps"
  rename_i fl _ l1 _ _ _ _ _ _ _
  refine whl_J (RbJ (pre ++ (x, c) :: post) (segs begin ((x, c) :: post) (tots pre)) fl begin ta end_ tl news) (by k_asm) (by k_extra "mine drop1") (post.length + 2)
    ⟨pre, (x, c) :: post, _, [], _, [], [], _, rfl, rfl, by simp, .nil, rfl, rfl, by simp only [List.length_append, List.length_cons, List.length_nil] at hl ⊢; omega, fun p hp => Nat.ne_of_lt (l1 p hp), by k_extra "mine look", by k_extra "mine look", by k_extra "mine look", by k_extra "mine look", by k_extra "mine look"⟩ ?_
  clear l1
  intro P9
  rintro k m₁ nx h tk G9 g9 ⟨pas, rest, b, vs, n, xx, done, tb, rfl, hio, hlen, hseg, hsegs, hb, hvl, hfl, hm1, hm2, hm3, hm4, hm5⟩ F' N'
  cases rest with
  | nil =>
    dsimp only [List.head?_nil, Option.map_none, optV] at hm1
    refine g9 ?_
    k_extra "mine steps"
    exact hret _ _ _ _ (by k_asm) (by k_asm) ⟨fl, n, vs, xx, rfl, rfl, by rw [hsegs]; simpa [segs] using hseg⟩
  | cons zc rest =>
    obtain ⟨z, cz⟩ := zc
    dsimp only [List.head?_cons, Option.map_some, optV] at hm1
    have hT2 : Tr σ (pas.map (·.1) ++ z :: rest.map (·.1)) := by
      have e := congrArg (List.map (·.1)) hio
      simp only [List.map_append, List.map_cons] at e
      rw [← e]
      exact hT
    have g2 : Good (pas.map (·.1) ++ z :: rest.map (·.1)) := by
      have e := congrArg (List.map (·.1)) hio
      simp only [List.map_append, List.map_cons] at e
      rw [← e]
      exact g
    have hlt : b < end_ := by
      have gp : Good (rest.map (·.1)) := fun z hz => g2 z (by simp only [List.mem_append, List.mem_cons]; exact .inr (.inr hz))
      have gz : 1 ≤ z.own := g2 z (by simp)
      have := gp.owns
      rw [he, hio, hb]
      simp only [tots, List.map_append, List.map_cons, owns_append, owns_cons]
      omega
    obtain ⟨_, _, _, _, hnz⟩ := Tr.node' hT2
    have hown := Tr.own hT2
    have hfol := Tr.following (f := 7) hT2 (by
      have := congrArg List.length hio
      simp only [List.length_append, List.length_cons, List.length_map] at hl this ⊢
      omega)
    have e9 : (rest.map (·.1)).head?.map It.a = rest.head?.map fun p => p.1.a := by cases rest <;> rfl
    rw [e9] at hfol
    obtain ⟨pz, wz, cz9, lz⟩ := ok (z, cz) (by rw [hio]; simp)
    dsimp only at pz wz cz9 lz
    simp only [List.length_cons] at hvl
    have sub2 : ∀ p ∈ S, p ∈ xx ++ news := fun p hp => List.mem_append_right _ (sub p hp)
    refine g9 ?_
    k_extra "mine steps"
    (with_reducible rename News _ _ _ _ => N9)
    (with_reducible rename (_ ∧ AllLt _ _) => l9)
    rw [List.push_toArray] at N9
    have N8 := News.swap N9
    have hmono : ∀ {c : Addr × Obj}, ∀ p ∈ xx ++ news, p ∈ (c :: xx) ++ news := fun p hp => List.mem_cons_of_mem _ hp
    refine LoopJ.again (by k_asm) N8 hlen ⟨pas ++ [(z, cz)], rest, b + z.own, vs ++ [_], n + 1, _ :: xx, done ++ [_], _, rfl, by rw [hio]; simp, Nat.lt_succ_self _, SegI.snoc (hseg.mono hmono) List.mem_cons_self (pz.mono fun p hp => List.mem_cons_of_mem _ (List.mem_append_right _ hp)) wz lz, by rw [hsegs]; simp [segs], by simp [tots, hb, owns_append, owns_cons, owns_nil], by simp only [List.length_append, List.length_singleton]; omega, ?_, by k_extra "mine look", by k_extra "mine look", by k_extra "mine look", by k_extra "mine look", by k_extra "mine look"⟩
    intro p hp
    rcases List.mem_cons.mp hp with rfl | hp
    · exact Nat.ne_of_gt l9.1
    · exact hfl p hp
end
end TV6

section TV7
open PySem PySem.W PyProof.Rows PySem.Calls PySem.Spec
set_option maxRecDepth 100000
set_option maxHeartbeats 2000000

noncomputable def firstW (f : Pl → Bool) : List (Int × Pl) → Option Int
  | [] => none
  | (b, c) :: r => if f c then some b else firstW f r
theorem lnj57 : True := by
  (k_with "off j37" => skip)
  (k_with "off j36" => skip)
  trivial
theorem firstW_stop {f : Pl → Bool} {b : Int} {c : Pl} {r : List (Int × Pl)} (h : f c = true) : firstW f ((b, c) :: r) = some b := by simp [firstW, h]
theorem firstW_on {f : Pl → Bool} {b : Int} {c : Pl} {r : List (Int × Pl)} (h : f c = false) : firstW f ((b, c) :: r) = firstW f r := by simp [firstW, h]
section
variable {prog : Program} {w : World} {news : Led}
inductive FwJ (f : Pl → Bool) (l : List (Int × Pl)) (rules : Addr) (number : Int) (tn : Tok) (v : Value) (T : Led) (c : Addr × Obj) (r : List Value) (m : Str → Option Value) (nx : Led) : Prop
  | mk (lr : List (Int × Pl)) (hx : nx = c :: T) (hm1 : m (Str.ofString "rules") = some (.ref rules)) (hm2 : m (Str.ofString "number") = some (.int number tn)) (hm3 : m (Str.ofString "value") = some v) (hsg : SegI T r lr) (hJ : firstW f l = firstW f lr)
theorem lnj58 : True := by
  (k_with "mine rules" => ((fail_if_success k_extra "off j38"); first | with_reducible assumption | exact HasRules.mono (by with_reducible assumption) (by k_extra "mine sub")))
  (k_with "mine props" => ((fail_if_success k_extra "off j38"); first | with_reducible assumption | exact HasProps.mono (by with_reducible assumption) (by k_extra "mine sub")))
  (k_with "getAttr ref#" => ((fail_if_success k_extra "off j38"); (k_here; (with_reducible show wpAny _ _ (getAttr (Value.ref _) (Str.ofString "tree") _) _ _ _); k_dflt (refine' get_tree ?k1_q ?k2_q ?k3_q ?k4_q ?_; (case k1_q => k_asm); (case k2_q => k_asm); (case k3_q => k_asm); (case k4_q => k_extra "mine props")))))
  (k_with "mine units" => ((fail_if_success k_extra "off j38"); (have hcL9 := cLine_is; (try simp only [units_under_make, units_in1, units_deeper, Around.mark_units, units_caller] at *); (try dsimp only [ktrTop] at *); omega)))
  (k_with "getMethod ref#" => ((fail_if_success k_extra "off j38"); (k_here; (with_reducible show wpAny _ _ (getMethod (Value.ref _) (Str.ofString "get") _) _ _ _); k_dflt (refine' kdg_method (knd := PySem.intKind _ _) ?k1_q ?k2_q ?k3_q ?_; (case k1_q => k_asm); (case k2_q => k_mem); (case k3_q => k_asm)))))
  (k_with "call builtin:dict.get#" => ((fail_if_success k_extra "off j38"); (k_here; (with_reducible show wpAny _ _ (call (Value.builtin "dict.get") [Value.ref _, Value.int _ _, _]) _ _ _); k_dflt (refine' kdg_get2 (knd := PySem.intKind _ _) ?k1_q ?k2_q ?k3_q ?k4_q (intKind_is _ _ _ _) (some _) ?k5_q ?_; (case k1_q => k_asm); (case k2_q => k_mem); (case k3_q => k_asm); (case k4_q => k_asm); (case k5_q => rfl); (try dsimp only [Option.getD])))))
  (k_with "mine sub" => ((fail_if_success k_extra "off j38"); first | with_reducible assumption | exact (fun _ h9 => h9) | (refine sub_cons ?_; k_extra "mine sub") | (intro p9 hp9; repeat (first | exact hp9 | exact List.mem_append_right _ hp9 | exact List.mem_append_left _ hp9 | refine List.mem_cons_of_mem _ ?_))))
  (k_with "call ref#" => ((fail_if_success k_extra "off j39"); (k_here; (with_reducible show wpAny _ _ (call (Value.ref 84) _ _) _ _ _); k_dflt ((first | (refine' FnR.useI (text_length_ok  ?g_q ?e_q ?sub_q ) ?S_q ?F_q ?N_q ?hd_q ?hu_q ?_)); (case g_q => k_extra "mine rep"); (case N_q => k_asm); (case e_q => with_reducible assumption); (case sub_q => k_extra "mine sub"); (case S_q => first | with_reducible assumption | exact Site.mk (by k_asm) (by k_asm) (by k_asm) (by first | exact rfl | with_reducible assumption)); (case F_q => k_asm); (case hd_q => first | exact room (by with_reducible assumption) rfl | ktr_room); (case hu_q => first | exact unitsL (by with_reducible assumption) rfl | ktr_units); intro h9 tk9 F9 N9 t9; (try k_sweep)))))
  (k_with "call ref#" => ((fail_if_success k_extra "off j39"); (k_here; (with_reducible show wpAny _ _ (call (Value.ref 77) _ _) _ _ _); k_dflt ((first | (refine' FnR.useI (own_length_ok  ?g_q ?e_q ?sub_q ) ?S_q ?F_q ?N_q ?hd_q ?hu_q ?_)); (case g_q => k_extra "mine rep"); (case N_q => k_asm); (case e_q => with_reducible assumption); (case sub_q => k_extra "mine sub"); (case S_q => first | with_reducible assumption | exact Site.mk (by k_asm) (by k_asm) (by k_asm) (by first | exact rfl | with_reducible assumption)); (case F_q => k_asm); (case hd_q => first | exact room (by with_reducible assumption) rfl | ktr_room); (case hu_q => first | exact unitsL (by with_reducible assumption) rfl | ktr_units); intro h9 tk9 F9 N9 t9; (try k_sweep)))))
  (k_with "call ref#" => ((fail_if_success k_extra "off j39"); (k_here; (with_reducible show wpAny _ _ (call (Value.ref 182) _ _) _ _ _); k_dflt ((first | (refine' FnR.useV (following_ok  ?g_q ?e_q ?sub_q ) ?S_q ?F_q ?N_q ?hd_q ?hu_q ?_)); (case g_q => k_extra "mine rep"); (case N_q => k_asm); (case e_q => with_reducible assumption); (case sub_q => k_extra "mine sub"); (case S_q => first | with_reducible assumption | exact Site.mk (by k_asm) (by k_asm) (by k_asm) (by first | exact rfl | with_reducible assumption)); (case F_q => k_asm); (case hd_q => first | exact room (by with_reducible assumption) rfl | ktr_room); (case hu_q => first | exact unitsL (by with_reducible assumption) rfl | ktr_units); intro h9 tk9 F9 N9; (try dsimp only [optV]); (try k_sweep)))))
  (k_with "call ref#" => ((fail_if_success k_extra "off j39"); (k_here; (with_reducible show wpAny _ _ (call (Value.ref 189) _ _) _ _ _); k_dflt ((first | (refine' FnR.useV (preceding_ok  ?g_q ?e_q ?sub_q ) ?S_q ?F_q ?N_q ?hd_q ?hu_q ?_)); (case g_q => k_extra "mine rep"); (case N_q => k_asm); (case e_q => with_reducible assumption); (case sub_q => k_extra "mine sub"); (case S_q => first | with_reducible assumption | exact Site.mk (by k_asm) (by k_asm) (by k_asm) (by first | exact rfl | with_reducible assumption)); (case F_q => k_asm); (case hd_q => first | exact room (by with_reducible assumption) rfl | ktr_room); (case hu_q => first | exact unitsL (by with_reducible assumption) rfl | ktr_units); intro h9 tk9 F9 N9; (try dsimp only [optV]); (try k_sweep)))))
  (k_with "call ref#" => ((fail_if_success k_extra "off j39"); (k_here; (with_reducible show wpAny _ _ (call (Value.ref 161) _ _) _ _ _); k_dflt ((refine' FnX.useT (find_interval_ok ?G_q ?hr_q ?e_q ?sub_q) ?S_q ?F_q ?N_q ?hd_q ?hu_q ?_; (case N_q => k_asm); (case G_q => k_extra "mine rep"); (case hr_q => with_reducible assumption); (case e_q => with_reducible assumption); (case sub_q => k_extra "mine sub")); (case S_q => first | with_reducible assumption | exact Site.mk (by k_asm) (by k_asm) (by k_asm) (by first | exact rfl | with_reducible assumption)); (case F_q => k_asm); (case hd_q => first | exact room (by with_reducible assumption) rfl | ktr_room); (case hu_q => first | exact unitsL (by with_reducible assumption) rfl | ktr_units); intro q9 t9 h9 tk9 F9 N9 hl9; (try k_sweep)))))
  (k_with "call ref#" => ((fail_if_success k_extra "off j39"); (k_here; (with_reducible show wpAny _ _ (call (Value.ref 259) _ _) _ _ _); k_dflt ((first | (refine' FnR.useV (same_plist_ok  ?ha_q ?hb_q ?hza_q ?hzb_q ?wa_q ?wb_q) ?S_q ?F_q ?N_q ?hd_q ?hu_q ?_; (case N_q => k_asm); (case ha_q => k_extra "mine pl"); (case hb_q => k_extra "mine pl"); (case hza_q => first | with_reducible assumption | omega); (case hzb_q => first | with_reducible assumption | omega); (case wa_q => with_reducible assumption); (case wb_q => with_reducible assumption))); (case S_q => first | with_reducible assumption | exact Site.mk (by k_asm) (by k_asm) (by k_asm) (by first | exact rfl | with_reducible assumption)); (case F_q => k_asm); (case hd_q => first | exact room (by with_reducible assumption) rfl | ktr_room); (case hu_q => first | exact unitsL (by with_reducible assumption) rfl | ktr_units); intro h9 tk9 F9 N9; (try k_sweep)))))
  (k_with "call ref#" => ((fail_if_success k_extra "off j39"); (k_here; (with_reducible show wpAny _ _ (call (Value.ref 231) _ _) _ _ _); k_dflt ((first | (refine' FnR.useV (eq_ok  ?hx_q ?hy_q ?hs_q) ?S_q ?F_q ?N_q ?hd_q ?hu_q ?_; (case N_q => k_asm); (case hx_q => k_extra "mine pv"); (case hy_q => k_extra "mine pv"); (case hs_q => with_reducible assumption))); (case S_q => first | with_reducible assumption | exact Site.mk (by k_asm) (by k_asm) (by k_asm) (by first | exact rfl | with_reducible assumption)); (case F_q => k_asm); (case hd_q => first | exact room (by with_reducible assumption) rfl | ktr_room); (case hu_q => first | exact unitsL (by with_reducible assumption) rfl | ktr_units); intro h9 tk9 F9 N9; (try k_sweep)))))
  (k_with "call ref#" => ((fail_if_success k_extra "off j39"); (k_here; (with_reducible show wpAny _ _ (call (Value.ref 294) _ _) _ _ _); k_dflt ((first | (refine' FnR.use (value_in_ok  ?H_q ?hp_q ?wf_q ?hz_q ?hk9_q) ?S_q ?F_q ?N_q ?hd_q ?hu_q ?_; (case N_q => k_asm); (case H_q => k_extra "mine rules"); (case hp_q => k_extra "mine pl"); (case wf_q => with_reducible assumption); (case hz_q => first | with_reducible assumption | omega); (case hk9_q => first | with_reducible assumption | decide | omega))); (case S_q => first | with_reducible assumption | exact Site.mk (by k_asm) (by k_asm) (by k_asm) (by first | exact rfl | with_reducible assumption)); (case F_q => k_asm); (case hd_q => first | exact room (by with_reducible assumption) rfl | ktr_room); (case hu_q => first | exact unitsL (by with_reducible assumption) rfl | ktr_units); intro r9 h9 tk9 F9 N9 post9; skip; (try dsimp only); (try k_sweep)))))
  trivial
theorem first_with_ok {props rules : Addr} {begin end_ number : Int} {ta tl tn : Tok} {v : Value} {y held : PV} {l : List (Int × Pl)} (HR : HasRules w.params news rules held) (hk9 : number ≠ 100) (hv : PVal [] v y) (hy : y.isSym = false)
    (hr : ∀ {ta tl : Tok}, FnX prog w 17 378 [.ref props, .int begin ta, .int end_ tl] news (fun r news' => ∃ fl n vs x, r = .ref fl ∧ news' = (fl, listOf vs.toArray n) :: (x ++ news) ∧ SegI (x ++ news) vs l)) :
    FnR prog w 19 413 [.ref props, .ref rules, .int begin ta, .int end_ tl, .int number tn, v] news (fun r => optI (firstW (fun c => pvEq (valIn c number held) y) l) r) := by
  (first | with_reducible refine FnR.intro ?_ | with_reducible refine FnX.intro ?_ | with_reducible refine FnM.intro ?_ | with_reducible refine @Mine.FnS.intro _ _ _ _ _ _ _ _ _ _ ?_)
  intro p loose mean mg mb dp un gd cn cs a9 ccd cl outer A₀ base h₀ L m hp gn dr tk0 os Q E B X T hk F N hd hu hret
  refine enter [(Str.ofString "props", .ref props), (Str.ofString "rules", .ref rules), (Str.ofString "begin", .int begin ta), (Str.ofString "end", .int end_ tl), (Str.ofString "number", .int number tn), (Str.ofString "value", v)] B F X N T rfl rfl hk (by k_is) (by k_is) (by ((conv => lhs; whnf); all_goals exact rfl)) (by ((conv => lhs; whnf); all_goals exact rfl)) (by ktr_room) (BindsTo.of_eq rfl) (locs rfl) ?_ rfl rfl rfl (by decide)
  intro g' L' h' FG' F' N' B' X' T'
  (try dsimp only)
  (try k_fold)
  refine fold_A ?_
  intro en9 ak9 hAu9
  have S9 : Site w ak9 (dp + 1) (un + 3) g' L' := Site.mk B' X' T' rfl
  k_extra "mine steps"
  refine' FnX.use hr ?S ?F ?N ?hd ?hu ?_
  (case S => with_reducible assumption); (case F => k_asm); (case N => k_asm); (case hd => first | exact room (by with_reducible assumption) rfl | ktr_room); (case hu => first | exact unitsL (by with_reducible assumption) rfl | ktr_units)
  rintro _ _ h9 tk9 F9 N9 ⟨fl, n, vs, x, rfl, rfl, hseg⟩
  (try dsimp only)
  k_sweep
  k_extra "mine steps"
  refine for_list (FwJ (fun c => pvEq (valIn c number held) y) l rules number tn v (x ++ news) (fl, listOf vs.toArray n)) rfl (by k_asm) (by k_asm) List.mem_cons_self rfl rfl ⟨l, rfl, by k_extra "mine look", by k_extra "mine look", by k_extra "mine look", hseg, rfl⟩ ?_ ?_ (by rfl)
  · clear hseg
    rintro I o v9 r m₁ nx h1 tk1 G9 g9 hI hne ⟨lr, rfl, hm1, hm2, hm3, hsg, hJ⟩ hx F' N'
    cases hsg with
    | cons hq hp hw hl hr =>
      rename_i lr q pl f e t t2 c
      have hq2 : (q, tupObj [.int f t, .int e t2, .ref pl]) ∈ (I, o) :: (fl, listOf vs.toArray n) :: (x ++ news) := List.mem_cons_of_mem _ (List.mem_cons_of_mem _ hq)
      have hp2 : IsPl ((I, o) :: (fl, listOf vs.toArray n) :: (x ++ news)) pl c := hp.mono fun p hp => List.mem_cons_of_mem _ (List.mem_cons_of_mem _ hp)
      have hse : (valIn c number held).isSym = y.isSym := by rw [hy, valIn_sym hw hk9 HR.sym]
      have hlz : c.length ≤ 4000000 := Nat.le_trans hl (by decide)
      refine g9 ?_
      intro P9
      k_extra "mine steps"
      all_goals first
        | exact hret _ _ _ (by k_asm) (by (with_reducible rename News _ _ _ _ => kN9); exact fun p hp => kN9 p (List.mem_cons_of_mem _ (List.mem_cons_of_mem _ (List.mem_append_right _ hp)))) (by rw [hJ, firstW_stop (f := fun c => pvEq (valIn c number held) y) (by assumption)]; exact ⟨_, rfl⟩)
        | exact ForEnd.intro (by k_asm) (by k_asm) hne ⟨List.mem_cons_self, lr, rfl, by k_extra "mine look", by k_extra "mine look", by k_extra "mine look", hr, by rw [hJ, firstW_on (f := fun c => pvEq (valIn c number held) y) (by assumption)]⟩
  · clear hseg
    rintro m₁ nx h1 tk1 ⟨lr, rfl, hm1, hm2, hm3, hsg, hJ⟩ F' N'
    cases hsg
    k_sweep
    k_extra "mine steps"
    exact hret _ _ _ (by k_asm) (by (with_reducible rename News _ _ _ _ => kN9); exact fun p hp => kN9 p (List.mem_cons_of_mem _ (List.mem_append_right _ hp))) (by rw [hJ]; rfl)
theorem first_without_ok {props rules : Addr} {begin end_ number : Int} {ta tl tn : Tok} {v : Value} {y held : PV} {l : List (Int × Pl)} (HR : HasRules w.params news rules held) (hk9 : number ≠ 100) (hv : PVal [] v y) (hy : y.isSym = false)
    (hr : ∀ {ta tl : Tok}, FnX prog w 17 378 [.ref props, .int begin ta, .int end_ tl] news (fun r news' => ∃ fl n vs x, r = .ref fl ∧ news' = (fl, listOf vs.toArray n) :: (x ++ news) ∧ SegI (x ++ news) vs l)) :
    FnR prog w 19 420 [.ref props, .ref rules, .int begin ta, .int end_ tl, .int number tn, v] news (fun r => optI (firstW (fun c => !pvEq (valIn c number held) y) l) r) := by
  (first | with_reducible refine FnR.intro ?_ | with_reducible refine FnX.intro ?_ | with_reducible refine FnM.intro ?_ | with_reducible refine @Mine.FnS.intro _ _ _ _ _ _ _ _ _ _ ?_)
  intro p loose mean mg mb dp un gd cn cs a9 ccd cl outer A₀ base h₀ L m hp gn dr tk0 os Q E B X T hk F N hd hu hret
  refine enter [(Str.ofString "props", .ref props), (Str.ofString "rules", .ref rules), (Str.ofString "begin", .int begin ta), (Str.ofString "end", .int end_ tl), (Str.ofString "number", .int number tn), (Str.ofString "value", v)] B F X N T rfl rfl hk (by k_is) (by k_is) (by ((conv => lhs; whnf); all_goals exact rfl)) (by ((conv => lhs; whnf); all_goals exact rfl)) (by ktr_room) (BindsTo.of_eq rfl) (locs rfl) ?_ rfl rfl rfl (by decide)
  intro g' L' h' FG' F' N' B' X' T'
  (try dsimp only)
  (try k_fold)
  refine fold_A ?_
  intro en9 ak9 hAu9
  have S9 : Site w ak9 (dp + 1) (un + 3) g' L' := Site.mk B' X' T' rfl
  k_extra "mine steps"
  refine' FnX.use hr ?S ?F ?N ?hd ?hu ?_
  (case S => with_reducible assumption); (case F => k_asm); (case N => k_asm); (case hd => first | exact room (by with_reducible assumption) rfl | ktr_room); (case hu => first | exact unitsL (by with_reducible assumption) rfl | ktr_units)
  rintro _ _ h9 tk9 F9 N9 ⟨fl, n, vs, x, rfl, rfl, hseg⟩
  (try dsimp only)
  k_sweep
  k_extra "mine steps"
  refine for_list (FwJ (fun c => !pvEq (valIn c number held) y) l rules number tn v (x ++ news) (fl, listOf vs.toArray n)) rfl (by k_asm) (by k_asm) List.mem_cons_self rfl rfl ⟨l, rfl, by k_extra "mine look", by k_extra "mine look", by k_extra "mine look", hseg, rfl⟩ ?_ ?_ (by rfl)
  · clear hseg
    rintro I o v9 r m₁ nx h1 tk1 G9 g9 hI hne ⟨lr, rfl, hm1, hm2, hm3, hsg, hJ⟩ hx F' N'
    cases hsg with
    | cons hq hp hw hl hr =>
      rename_i lr q pl f e t t2 c
      have hq2 : (q, tupObj [.int f t, .int e t2, .ref pl]) ∈ (I, o) :: (fl, listOf vs.toArray n) :: (x ++ news) := List.mem_cons_of_mem _ (List.mem_cons_of_mem _ hq)
      have hp2 : IsPl ((I, o) :: (fl, listOf vs.toArray n) :: (x ++ news)) pl c := hp.mono fun p hp => List.mem_cons_of_mem _ (List.mem_cons_of_mem _ hp)
      have hse : (valIn c number held).isSym = y.isSym := by rw [hy, valIn_sym hw hk9 HR.sym]
      have hlz : c.length ≤ 4000000 := Nat.le_trans hl (by decide)
      refine g9 ?_
      intro P9
      k_extra "mine steps"
      all_goals first
        | exact hret _ _ _ (by k_asm) (by (with_reducible rename News _ _ _ _ => kN9); exact fun p hp => kN9 p (List.mem_cons_of_mem _ (List.mem_cons_of_mem _ (List.mem_append_right _ hp)))) (by rw [hJ, firstW_stop (f := fun c => !pvEq (valIn c number held) y) (by simpa using (by assumption : pvEq (valIn c number held) y = false))]; exact ⟨_, rfl⟩)
        | exact ForEnd.intro (by k_asm) (by k_asm) hne ⟨List.mem_cons_self, lr, rfl, by k_extra "mine look", by k_extra "mine look", by k_extra "mine look", hr, by rw [hJ, firstW_on (f := fun c => !pvEq (valIn c number held) y) (by simpa using (by assumption : pvEq (valIn c number held) y = true))]⟩
  · clear hseg
    rintro m₁ nx h1 tk1 ⟨lr, rfl, hm1, hm2, hm3, hsg, hJ⟩ F' N'
    cases hsg
    k_sweep
    k_extra "mine steps"
    exact hret _ _ _ (by k_asm) (by (with_reducible rename News _ _ _ _ => kN9); exact fun p hp => kN9 p (List.mem_cons_of_mem _ (List.mem_append_right _ hp))) (by rw [hJ]; rfl)
end
end TV7

section TZ1
set_option maxRecDepth 100000
set_option maxHeartbeats 2000000
theorem lnj59 : True := by
  (k_with "off j39" => skip)
  (k_with "off j38" => skip)
  trivial
theorem nextG_none {α : Type} [DecidableEq α] {l : List α} {a : Option α} : ∀ {k p : Nat}, (∀ j, p ≤ j → j < p + k → l[j]? = a) → nextG l a k p = none
  | 0, _, _ => rfl
  | k + 1, p, h => by
    rw [nextG, if_pos (h p (Nat.le_refl _) (by (first | lia | omega)))]
    exact nextG_none fun j h1 h2 => h j (by (first | lia | omega)) (by (first | lia | omega))
theorem nextG_some {α : Type} [DecidableEq α] {l : List α} {a : Option α} {q : Nat} (hq : l[q]? ≠ a) : ∀ {k p : Nat}, p ≤ q → q < p + k → (∀ j, p ≤ j → j < q → l[j]? = a) → nextG l a k p = some (q : Int)
  | 0, p, h1, h2, _ => by (first | lia | omega)
  | k + 1, p, h1, h2, h => by
    by_cases e : p = q
    · subst e
      rw [nextG, if_neg hq]
    · rw [nextG, if_pos (h p (Nat.le_refl _) (by (first | lia | omega)))]
      exact nextG_some hq (by (first | lia | omega)) (by (first | lia | omega)) fun j h1 h2 => h j (by (first | lia | omega)) h2
theorem lastG_eq {α : Type} [DecidableEq α] {l : List α} {a : Option α} {q : Nat} (hq : q = 0 ∨ l[q - 1]? ≠ a) : ∀ {p : Nat}, q ≤ p → (∀ j, q ≤ j → j < p → l[j]? = a) → lastG l a p = q
  | 0, h1, _ => by rw [lastG]; (first | lia | omega)
  | p + 1, h1, h => by
    by_cases e : q = p + 1
    · subst e
      rcases hq with hq | hq
      · (first | lia | omega)
      · rw [lastG, if_neg (by simpa using hq)]
    · rw [lastG, if_pos (h p (by (first | lia | omega)) (by (first | lia | omega)))]
      exact lastG_eq hq (by (first | lia | omega)) fun j h1 h2 => h j h1 (by (first | lia | omega))
noncomputable def GoodI (l : Ioc) : Prop := ∀ x ∈ l, 1 ≤ x.1.own
theorem GoodI.tail {x : It × Pl} {l : Ioc} (g : GoodI (x :: l)) : GoodI l := fun y hy => g y (List.mem_cons_of_mem _ hy)
theorem GoodI.head {x : It × Pl} {l : Ioc} (g : GoodI (x :: l)) : 1 ≤ x.1.own := g x List.mem_cons_self
theorem expI_cons (x : It × Pl) (l : Ioc) : expI (x :: l) = List.replicate x.1.own.toNat x.2 ++ expI l := rfl
theorem expI_app (a b : Ioc) : expI (a ++ b) = expI a ++ expI b := by simp [expI]
theorem expI_len : ∀ {l : Ioc}, GoodI l → ((expI l).length : Int) = tots l
  | [], _ => rfl
  | x :: l, g => by
    have := expI_len g.tail
    have h1 := g.head
    rw [expI_cons, List.length_append, List.length_replicate]
    simp only [tots, List.map_cons, owns_cons] at this ⊢
    (first | lia | omega)
/-- the first place of a list where f falls -/
theorem scanN_spec {f : Pl → Bool} : ∀ {l : Ioc} {b : Int}, GoodI l →
    (scanN f l b = none ∧ ∀ (j : Nat) (c : Pl), (expI l)[j]? = some c → f c = true) ∨
    ∃ (k : Nat) (c : Pl), scanN f l b = some (b + k) ∧ (expI l)[k]? = some c ∧ f c = false ∧ ∀ (j : Nat) (c : Pl), j < k → (expI l)[j]? = some c → f c = true
  | [], b, _ => .inl ⟨rfl, fun j c h => by simp [expI] at h⟩
  | (z, c) :: l, b, g => by
    have h1 : 1 ≤ z.own := g.head
    by_cases e : f c = true
    · rw [scanN, if_pos e]
      rcases scanN_spec (f := f) (b := b + z.own) g.tail with ⟨h2, h3⟩ | ⟨k, c', h2, h3, h4, h5⟩
      · refine .inl ⟨h2, fun j c' h => ?_⟩
        rw [expI_cons, List.getElem?_append] at h
        split at h
        · rw [List.getElem?_replicate] at h
          split at h
          · cases h; exact e
          · cases h
        · exact h3 _ _ h
      · refine .inr ⟨z.own.toNat + k, c', by rw [h2]; congr 1; (first | lia | omega), ?_, h4, fun j c'' hj h => ?_⟩
        · rw [expI_cons, List.getElem?_append_right (by simp)]
          simpa using h3
        · rw [expI_cons, List.getElem?_append] at h
          split at h
          · rw [List.getElem?_replicate] at h
            split at h
            · cases h; exact e
            · cases h
          · rename_i hn
            simp only [List.length_replicate] at hn h
            exact h5 _ _ (by (first | lia | omega)) h
    · have e' : f c = false := by simpa using e
      refine .inr ⟨0, c, by rw [scanN, if_neg e]; simp, ?_, e', fun j _ hj => by (first | lia | omega)⟩
      rw [expI_cons, List.getElem?_append_left (by simp only [List.length_replicate]; (first | lia | omega)), List.getElem?_replicate, if_pos (by dsimp only; (first | lia | omega))]
theorem exp_in {x : It} {c : Pl} {post : Ioc} {j : Nat} (h : (j : Int) < x.own) : (expI ((x, c) :: post))[j]? = some c := by
  rw [expI_cons, List.getElem?_append_left (by simp; (first | lia | omega)), List.getElem?_replicate, if_pos (by simp; (first | lia | omega))]
theorem exp_off {pre r : Ioc} (g : GoodI pre) {j : Nat} (h : tots pre ≤ j) : (expI (pre ++ r))[j]? = (expI r)[j - (tots pre).toNat]? := by
  have := expI_len g
  rw [expI_app, List.getElem?_append_right (by (first | lia | omega))]
  congr 1
  (first | lia | omega)
theorem exp_pre {pre r : Ioc} (g : GoodI pre) {j : Nat} (h : (j : Int) < tots pre) : (expI (pre ++ r))[j]? = (expI pre)[j]? := by
  have := expI_len g
  rw [expI_app, List.getElem?_append_left (by (first | lia | omega))]
theorem exp_off' (pre r : Ioc) (i : Nat) : (expI (pre ++ r))[(expI pre).length + i]? = (expI r)[i]? := by
  rw [expI_app, List.getElem?_append_right (Nat.le_add_right _ _), Nat.add_sub_cancel_left]
theorem exp_in' {x : It} {c : Pl} {post : Ioc} {j : Nat} (h : j < x.own.toNat) : (expI ((x, c) :: post))[j]? = some c := by
  rw [expI_cons, List.getElem?_append_left (by rw [List.length_replicate]; exact h), List.getElem?_replicate, if_pos h]
theorem exp_post {x : It} {c : Pl} {post : Ioc} (i : Nat) : (expI ((x, c) :: post))[x.own.toNat + i]? = (expI post)[i]? := by
  rw [expI_cons, List.getElem?_append_right (by rw [List.length_replicate]; exact Nat.le_add_right _ _), List.length_replicate, Nat.add_sub_cancel_left]
theorem at_split {pre : Ioc} {x : It} {at_ : Int} (g1 : GoodI pre) (h0 : tots pre ≤ at_) (h1 : at_ < tots pre + x.own) : ∃ d : Nat, at_ = (((expI pre).length + d : Nat) : Int) ∧ d < x.own.toNat := by
  have := expI_len g1
  exact ⟨(at_ - tots pre).toNat, by (first | lia | omega), by (first | lia | omega)⟩
theorem tots_app (a b : Ioc) : tots (a ++ b) = tots a + tots b := by simp only [tots, List.map_append, owns_append]
theorem tots_pos : ∀ {l : Ioc}, GoodI l → 0 ≤ tots l
  | [], _ => by simp [tots, owns]
  | x :: l, g => by
    have := tots_pos g.tail
    have := g.head
    simp only [tots, List.map_cons, owns_cons] at *
    (first | lia | omega)
theorem good_app {a b : Ioc} (g : GoodI (a ++ b)) : GoodI a ∧ GoodI b := ⟨fun x h => g x (List.mem_append_left _ h), fun x h => g x (List.mem_append_right _ h)⟩
/-- every place lies in a run -/
theorem run_at : ∀ {l : Ioc} {k : Int}, GoodI l → 0 ≤ k → k < tots l → ∃ pre x c post, l = pre ++ (x, c) :: post ∧ tots pre ≤ k ∧ k < tots pre + x.own
  | [], k, _, h0, h1 => by simp [tots, owns] at h1; (first | lia | omega)
  | (x, c) :: l, k, g, h0, h1 => by
    by_cases h : k < x.own
    · exact ⟨[], x, c, l, rfl, by simpa [tots, owns] using h0, by simpa [tots, owns] using h⟩
    · simp only [tots, List.map_cons, owns_cons] at h1
      obtain ⟨pre, y, d, post, e, a, b⟩ := run_at (k := k - x.own) g.tail (by (first | lia | omega)) (by simp only [tots]; (first | lia | omega))
      refine ⟨(x, c) :: pre, y, d, post, by rw [e]; rfl, ?_, ?_⟩ <;> (simp only [tots, List.map_cons, owns_cons] at a b ⊢; (first | lia | omega))
section
set_option linter.unusedSectionVars false
variable {β : Type} [DecidableEq β] {f : Pl → β} {pre post : Ioc} {x : It} {c : Pl} {at_ limit : Int} {l : List β}
theorem pure_at (g : GoodI (pre ++ (x, c) :: post)) (hl : l = (expI (pre ++ (x, c) :: post)).map f) (h0 : tots pre ≤ at_) (h1 : at_ < tots pre + x.own) : l[at_.toNat]? = some (f c) := by
  obtain ⟨d, rfl, e2⟩ := at_split (good_app g).1 h0 h1
  rw [hl, List.getElem?_map, Int.toNat_natCast, exp_off', exp_in' e2]
  rfl
theorem pure_len (g : GoodI (pre ++ (x, c) :: post)) (hl : l = (expI (pre ++ (x, c) :: post)).map f) : (l.length : Int) = tots (pre ++ (x, c) :: post) := by
  rw [hl, List.length_map, expI_len g]
theorem lim_iff {n : Nat} {limit : Int} {a j : Nat} (h : a + 1 ≤ j) : j < a + 1 + ((if (n : Int) < limit then (n : Int) else limit) - ((a : Int) + 1)).toNat ↔ j < n ∧ (j : Int) < limit := by
  split <;> (first | lia | omega)
theorem pure_next (g : GoodI (pre ++ (x, c) :: post)) (hl : l = (expI (pre ++ (x, c) :: post)).map f) (h0 : tots pre ≤ at_) (h1 : at_ < tots pre + x.own) {h : Pl → Bool} (hh : ∀ c' ∈ expI ((x, c) :: post), h c' = decide (f c' = f c)) :
    nextG l (l[at_.toNat]?) ((if (l.length : Int) < limit then (l.length : Int) else limit) - (at_ + 1)).toNat (at_.toNat + 1) = below limit (scanN h ((x, c) :: post) (tots pre)) := by
  rw [pure_at g hl h0 h1]
  obtain ⟨g1, g2⟩ := good_app g
  obtain ⟨d, rfl, e2⟩ := at_split g1 h0 h1
  rw [Int.toNat_natCast, ← expI_len g1]
  have hll : l.length = (expI pre).length + (expI ((x, c) :: post)).length := by rw [hl, List.length_map, expI_app, List.length_append]
  have hK := fun j => @lim_iff l.length limit ((expI pre).length + d) j
  generalize ((if (l.length : Int) < limit then (l.length : Int) else limit) - ((((expI pre).length + d : Nat) : Int) + 1)).toNat = K at hK ⊢
  have hget : ∀ i : Nat, l[(expI pre).length + i]? = ((expI ((x, c) :: post))[i]?).map f := fun i => by rw [hl, List.getElem?_map, exp_off']
  have hs := scanN_spec (f := h) (b := ((expI pre).length : Int)) g2
  generalize (expI pre).length = n at *
  have hin := fun {j : Nat} (hj : j < x.own.toNat) => exp_in' (c := c) (post := post) hj
  generalize expI ((x, c) :: post) = E at *
  have same : ∀ i dd, E[i]? = some dd → h dd = true → l[n + i]? = some (f c) := fun i dd hd h9 => by
    rw [hh dd (List.mem_of_getElem? hd)] at h9
    rw [hget, hd, Option.map_some, of_decide_eq_true h9]
  rcases hs with ⟨e, a⟩ | ⟨k, c', e, hk, hc, a⟩
  · rw [e]
    refine nextG_none fun j hj1 hj2 => ?_
    obtain ⟨i, rfl⟩ := Nat.exists_eq_add_of_le (Nat.le_trans (Nat.le_trans (Nat.le_add_right n d) (Nat.le_succ _)) hj1)
    have hj3 := ((hK _ hj1).mp hj2).1
    rw [hll] at hj3
    have hd := List.getElem?_eq_getElem (Nat.lt_of_add_lt_add_left hj3)
    exact same i _ hd (a _ _ hd)
  · rw [e]
    have hk2 : k < E.length := (List.getElem?_eq_some_iff.mp hk).1
    have hne : l[n + k]? ≠ some (f c) := fun h9 => by
      rw [hget, hk, Option.map_some] at h9
      rw [hh c' (List.mem_of_getElem? hk)] at hc
      exact of_decide_eq_false hc (Option.some.inj h9)
    have hon : ∀ j, n + d + 1 ≤ j → j < n + k → l[j]? = some (f c) := fun j hj1 hj2 => by
      obtain ⟨i, rfl⟩ := Nat.exists_eq_add_of_le (Nat.le_trans (Nat.le_trans (Nat.le_add_right n d) (Nat.le_succ _)) hj1)
      have hi := Nat.lt_of_add_lt_add_left hj2
      have hd := List.getElem?_eq_getElem (Nat.lt_trans hi hk2)
      exact same i _ hd (a _ _ hi hd)
    have hdk : d < k := by
      rcases Nat.lt_or_ge d k with h9 | h9
      · exact h9
      · have h8 := hin (Nat.lt_of_le_of_lt h9 e2)
        rw [hk] at h8
        cases h8
        rw [hh c (List.mem_of_getElem? hk), decide_eq_true rfl] at hc
        cases hc
    have hat : n + d + 1 ≤ n + k := Nat.add_lt_add_left hdk n
    by_cases hlim : limit ≤ (n : Int) + k
    · rw [below, Option.bind_some, if_pos hlim]
      exact nextG_none fun j hj1 hj2 => hon j hj1 (Int.ofNat_lt.mp (Int.lt_of_lt_of_le ((hK _ hj1).mp hj2).2 hlim))
    · rw [below, Option.bind_some, if_neg hlim]
      exact nextG_some hne hat ((hK _ hat).mpr ⟨by rw [hll]; exact Nat.add_lt_add_left hk2 n, Int.not_le.mp hlim⟩) hon
theorem scanP_spec {h : Pl → Bool} : ∀ {r : Ioc} {b : Int}, GoodI r.reverse → b = tots r.reverse →
    (scanP h r b = none ∧ ∀ (j : Nat) (c : Pl), (expI r.reverse)[j]? = some c → h c = true) ∨
    ∃ (k : Nat) (c : Pl), scanP h r b = some ((k : Int) + 1) ∧ (expI r.reverse)[k]? = some c ∧ h c = false ∧ ∀ (j : Nat) (c : Pl), k < j → (expI r.reverse)[j]? = some c → h c = true
  | [], b, _, _ => .inl ⟨rfl, fun j c h => by simp [expI] at h⟩
  | (z, c) :: r, b, g, hb => by
    rw [List.reverse_cons] at g hb
    obtain ⟨g1, g2⟩ := good_app g
    have hz : 1 ≤ z.own := g2 (z, c) List.mem_cons_self
    have hlen := expI_len g1
    have hp := tots_pos g1
    have ht : tots [(z, c)] = z.own := by simp [tots, owns]
    rw [tots_app, ht] at hb
    have hlast : ∀ (j : Nat) (c' : Pl), tots r.reverse ≤ j → (expI (r.reverse ++ [(z, c)]))[j]? = some c' → c' = c := fun j c' hj hc => by
      rw [exp_off g1 hj, expI_cons, List.getElem?_append] at hc
      split at hc
      · rw [List.getElem?_replicate] at hc
        split at hc
        · cases hc; rfl
        · cases hc
      · simp [expI] at hc
    rw [List.reverse_cons]
    by_cases e : h c = true
    · rw [scanP, if_pos e]
      rcases scanP_spec (h := h) (r := r) (b := b - z.own) g1 (by (first | lia | omega)) with ⟨h2, h3⟩ | ⟨k, c', h2, h3, h4, h5⟩
      · refine .inl ⟨h2, fun j c' hc => ?_⟩
        rcases Int.lt_or_le j (tots r.reverse) with h9 | h9
        · rw [exp_pre g1 h9] at hc
          exact h3 _ _ hc
        · rw [hlast j c' h9 hc]; exact e
      · refine .inr ⟨k, c', h2, ?_, h4, fun j c'' hj hc => ?_⟩
        · have hk2 : k < (expI r.reverse).length := (List.getElem?_eq_some_iff.mp h3).1
          rw [exp_pre g1 (by (first | lia | omega))]
          exact h3
        · rcases Int.lt_or_le j (tots r.reverse) with h9 | h9
          · rw [exp_pre g1 h9] at hc
            exact h5 _ _ hj hc
          · rw [hlast j c'' h9 hc]; exact e
    · have e' : h c = false := by simpa using e
      refine .inr ⟨(b - 1).toNat, c, by rw [scanP, if_neg e]; congr 1; (first | lia | omega), ?_, e', fun j c'' hj hc => ?_⟩
      · rw [exp_off g1 (by (first | lia | omega))]
        exact exp_in (by (first | lia | omega))
      · exfalso
        have h9 := (List.getElem?_eq_some_iff.mp hc).1
        have h8 := expI_len g
        rw [tots_app, ht] at h8
        (first | lia | omega)
theorem exp_pre' (pre r : Ioc) {j : Nat} (h : j < (expI pre).length) : (expI (pre ++ r))[j]? = (expI pre)[j]? := by
  rw [expI_app, List.getElem?_append_left h]
theorem pure_last (g : GoodI (pre ++ (x, c) :: post)) (hl : l = (expI (pre ++ (x, c) :: post)).map f) (h0 : tots pre ≤ at_ - 1) (h1 : at_ - 1 < tots pre + x.own) {h : Pl → Bool} (hh : ∀ c' ∈ expI pre, h c' = decide (f c' = f c)) :
    aboveG limit (lastG l (l[(at_ - 1).toNat]?) (at_ - 1).toNat) = above limit (scanP h pre.reverse (tots pre)) := by
  rw [pure_at g hl h0 h1]
  obtain ⟨g1, g2⟩ := good_app g
  obtain ⟨d, e1, e2⟩ := at_split g1 h0 h1
  rw [e1, Int.toNat_natCast]
  have hgx : ∀ i : Nat, i < d → l[(expI pre).length + i]? = some (f c) := fun i hi => by
    rw [hl, List.getElem?_map, exp_off', exp_in' (Nat.lt_trans hi e2)]; rfl
  have hgp : ∀ (j : Nat), j < (expI pre).length → l[j]? = ((expI pre)[j]?).map f := fun j hj => by rw [hl, List.getElem?_map, exp_pre' _ _ hj]
  have hs := scanP_spec (h := h) (r := pre.reverse) (b := tots pre) (by rwa [List.reverse_reverse]) (by rw [List.reverse_reverse])
  rw [List.reverse_reverse] at hs
  generalize expI pre = E at *
  have same : ∀ (i : Nat) dd, i < E.length → E[i]? = some dd → h dd = true → l[i]? = some (f c) := fun i dd hi hd h9 => by
    rw [hh dd (List.mem_of_getElem? hd)] at h9
    rw [hgp i hi, hd, Option.map_some, of_decide_eq_true h9]
  rcases hs with ⟨e, a⟩ | ⟨k, c', e, hk, hc, a⟩
  · rw [e, lastG_eq (q := 0) (.inl rfl) (Nat.zero_le _) fun j _ hj2 => ?_]
    · rfl
    · rcases Nat.lt_or_ge j E.length with h9 | h9
      · exact same j _ h9 (List.getElem?_eq_getElem h9) (a _ _ (List.getElem?_eq_getElem h9))
      · obtain ⟨i, rfl⟩ := Nat.exists_eq_add_of_le h9
        exact hgx i (Nat.lt_of_add_lt_add_left hj2)
  · have hk2 : k < E.length := (List.getElem?_eq_some_iff.mp hk).1
    rw [e, lastG_eq (q := k + 1) (.inr ?_) (Nat.le_trans hk2 (Nat.le_add_right _ _)) fun j hj1 hj2 => ?_]
    · rw [above, aboveG, Option.bind_some]
      by_cases hlim : (k : Int) + 1 ≤ limit
      · rw [if_pos hlim, if_neg fun h9 => Int.not_le.mpr h9.2 hlim]
      · rw [if_neg hlim, if_pos ⟨Nat.succ_pos k, Int.not_le.mp hlim⟩]; rfl
    · rw [Nat.add_sub_cancel, hgp k hk2, hk, Option.map_some]
      rw [hh c' (List.mem_of_getElem? hk)] at hc
      intro h9
      exact of_decide_eq_false hc (Option.some.inj h9)
    · rcases Nat.lt_or_ge j E.length with h9 | h9
      · exact same j _ h9 (List.getElem?_eq_getElem h9) (a _ _ hj1 (List.getElem?_eq_getElem h9))
      · obtain ⟨i, rfl⟩ := Nat.exists_eq_add_of_le h9
        exact hgx i (Nat.lt_of_add_lt_add_left hj2)
end
/-- the places of a range where P holds -/
noncomputable def placesF (P : Nat → Bool) (a : Nat) : Nat → List Int
  | 0 => []
  | n + 1 => placesF P a n ++ (if P (a + n) then [((a + n : Nat) : Int)] else [])
theorem places_mem {P : Nat → Bool} {a : Nat} : ∀ {n : Nat} {j : Int}, j ∈ placesF P a n ↔ ∃ k : Nat, j = k ∧ a ≤ k ∧ k < a + n ∧ P k = true
  | 0, j => by simp [placesF]; (first | lia | omega)
  | n + 1, j => by
    rw [placesF, List.mem_append, places_mem]
    constructor
    · rintro (⟨k, h1, h2, h3, h4⟩ | h)
      · exact ⟨k, h1, h2, by (first | lia | omega), h4⟩
      · split at h
        · rename_i hP
          exact ⟨a + n, List.mem_singleton.mp h, by (first | lia | omega), by (first | lia | omega), hP⟩
        · cases h
    · rintro ⟨k, h1, h2, h3, h4⟩
      by_cases e : k = a + n
      · subst e
        exact .inr (by rw [if_pos h4]; exact List.mem_singleton.mpr h1)
      · exact .inl ⟨k, h1, h2, by (first | lia | omega), h4⟩
theorem places_none {P : Nat → Bool} {a : Nat} : ∀ {n : Nat}, (∀ k, a ≤ k → k < a + n → P k = false) → placesF P a n = []
  | 0, _ => rfl
  | n + 1, h => by
    rw [placesF, places_none fun k h1 h2 => h k h1 (by (first | lia | omega)), if_neg (by rw [h (a + n) (by (first | lia | omega)) (by (first | lia | omega))]; simp)]
    rfl
theorem places_head {P : Nat → Bool} {a q : Nat} (hq : P q = true) : ∀ {n : Nat}, a ≤ q → q < a + n → (∀ k, a ≤ k → k < q → P k = false) → (placesF P a n).head? = some (q : Int)
  | 0, h1, h2, _ => by (first | lia | omega)
  | n + 1, h1, h2, h => by
    by_cases e : q = a + n
    · subst e
      rw [placesF, places_none h, if_pos hq]
      rfl
    · rw [placesF, List.head?_append, places_head hq h1 (by (first | lia | omega)) h]
      rfl
theorem places_len {P : Nat → Bool} {a : Nat} : ∀ {n : Nat}, (placesF P a n).length ≤ n
  | 0 => Nat.le_refl _
  | n + 1 => by
    have := places_len (P := P) (a := a) (n := n)
    rw [placesF, List.length_append]
    split <;> simp <;> (first | lia | omega)
theorem firstW_segs {h : Pl → Bool} {begin : Int} : ∀ {l : Ioc} {b : Int}, GoodI l → begin ≤ b →
    (firstW h (segs begin l b) = none ∧ ∀ (j : Nat) (c : Pl), (expI l)[j]? = some c → h c = false) ∨
    ∃ (k : Nat) (c : Pl), firstW h (segs begin l b) = some (b + k) ∧ (expI l)[k]? = some c ∧ h c = true ∧ ∀ (j : Nat) (c : Pl), j < k → (expI l)[j]? = some c → h c = false
  | [], b, _, _ => .inl ⟨rfl, fun j c h => by simp [expI] at h⟩
  | (z, c) :: l, b, g, hb => by
    have h1 : 1 ≤ z.own := g.head
    by_cases e : h c = true
    · refine .inr ⟨0, c, by rw [segs, firstW, if_pos e, if_neg (show ¬ begin > b by (first | lia | omega))]; simp, exp_in (by (first | lia | omega)), e, fun j _ hj => by (first | lia | omega)⟩
    · have e' : h c = false := by simpa using e
      rw [segs, firstW, if_neg e]
      rcases firstW_segs (h := h) (begin := begin) (b := b + z.own) g.tail (by (first | lia | omega)) with ⟨h2, h3⟩ | ⟨k, c', h2, h3, h4, h5⟩
      · refine .inl ⟨h2, fun j c' hc => ?_⟩
        rw [expI_cons, List.getElem?_append] at hc
        split at hc
        · rw [List.getElem?_replicate] at hc
          split at hc
          · cases hc; exact e'
          · cases hc
        · exact h3 _ _ hc
      · refine .inr ⟨z.own.toNat + k, c', by rw [h2]; congr 1; (first | lia | omega), ?_, h4, fun j c'' hj hc => ?_⟩
        · rw [expI_cons, List.getElem?_append_right (by simp)]
          simpa using h3
        · rw [expI_cons, List.getElem?_append] at hc
          split at hc
          · rw [List.getElem?_replicate] at hc
            split at hc
            · cases hc; exact e'
            · cases hc
          · rename_i hn
            simp only [List.length_replicate] at hn hc
            exact h5 _ _ (by (first | lia | omega)) hc
theorem pure_first {pre post : Ioc} {x : It} {c : Pl} {at_ : Int} {P : Nat → Bool} {h : Pl → Bool} (g : GoodI (pre ++ (x, c) :: post)) (h0 : tots pre ≤ at_) (h1 : at_ < tots pre + x.own)
    (hP : ∀ (j : Nat) (c' : Pl), (expI (pre ++ (x, c) :: post))[j]? = some c' → P j = h c') :
    (placesF P at_.toNat (tots (pre ++ (x, c) :: post) - at_).toNat).head? = firstW h (segs at_ ((x, c) :: post) (tots pre)) := by
  obtain ⟨g1, g2⟩ := good_app g
  obtain ⟨d, rfl, e2⟩ := at_split g1 h0 h1
  have hPx : ∀ i : Nat, i < x.own.toNat → P ((expI pre).length + i) = h c := fun i hi => hP _ c (by rw [exp_off']; exact exp_in' hi)
  have hPp : ∀ (i : Nat) (c' : Pl), (expI post)[i]? = some c' → P ((expI pre).length + (x.own.toNat + i)) = h c' := fun i c' hi => hP _ c' (by rw [exp_off', exp_post]; exact hi)
  have hx : x.own = (x.own.toNat : Int) := (Int.toNat_of_nonneg (Int.le_trans (by decide) g2.head)).symm
  have hlen : (expI (pre ++ (x, c) :: post)).length = (expI pre).length + (x.own.toNat + (expI post).length) := by rw [expI_app, List.length_append, expI_cons, List.length_append, List.length_replicate]
  rw [← expI_len g, hlen, Int.toNat_sub, Int.toNat_natCast, ← expI_len g1]
  rw [← expI_len g1] at h0
  have hM : (expI pre).length + d + ((expI pre).length + (x.own.toNat + (expI post).length) - ((expI pre).length + d)) = (expI pre).length + (x.own.toNat + (expI post).length) :=
    Nat.add_sub_of_le (Nat.add_le_add_left (Nat.le_trans (Nat.le_of_lt e2) (Nat.le_add_right _ _)) _)
  have hfs := fun hb => firstW_segs (h := h) (begin := (((expI pre).length + d : Nat) : Int)) (l := post) (b := ((expI pre).length : Int) + x.own) g2.tail hb
  generalize (expI pre).length + (x.own.toNat + (expI post).length) - ((expI pre).length + d) = M at hM ⊢
  generalize (expI pre).length = n at *
  generalize expI post = E at *
  rw [segs, firstW]
  by_cases e : h c = true
  · rw [if_pos e, places_head (q := n + d) (by rw [hPx _ e2]; exact e) (Nat.le_refl _) (by rw [hM]; exact Nat.add_lt_add_left (Nat.lt_of_lt_of_le e2 (Nat.le_add_right _ _)) _) (fun k h2 h3 => absurd h3 (Nat.not_lt.mpr h2))]
    split
    · rfl
    · rename_i h9
      exact congrArg some (Int.le_antisymm (Int.not_lt.mp h9) h0)
  · have e' : h c = false := by simpa using e
    rw [if_neg e]
    have hb : (((n + d : Nat)) : Int) ≤ (n : Int) + x.own := by rw [hx]; exact Int.ofNat_le.mpr (Nat.add_le_add_left (Nat.le_of_lt e2) n)
    have low : ∀ j, n + d ≤ j → j < n + x.own.toNat → P j = false := fun j h2 h3 => by
      obtain ⟨i, rfl⟩ := Nat.exists_eq_add_of_le (Nat.le_trans (Nat.le_add_right n d) h2)
      rw [hPx i (Nat.lt_of_add_lt_add_left h3)]; exact e'
    rcases hfs hb with ⟨h2, h3⟩ | ⟨k, c', h2, h3, h4, h5⟩
    · rw [h2, places_none fun j h6 h7 => ?_]
      · rfl
      · rcases Nat.lt_or_ge j (n + x.own.toNat) with h9 | h9
        · exact low j h6 h9
        · obtain ⟨i, rfl⟩ := Nat.exists_eq_add_of_le h9
          rw [hM, ← Nat.add_assoc] at h7
          have hd := List.getElem?_eq_getElem (Nat.lt_of_add_lt_add_left h7)
          rw [Nat.add_assoc, hPp i _ hd]
          exact h3 _ _ hd
    · have hk2 : k < E.length := (List.getElem?_eq_some_iff.mp h3).1
      rw [h2, places_head (q := n + (x.own.toNat + k)) (by rw [hPp k c' h3]; exact h4) (Nat.add_le_add_left (Nat.le_trans (Nat.le_of_lt e2) (Nat.le_add_right _ _)) n) (by rw [hM]; exact Nat.add_lt_add_left (Nat.add_lt_add_left hk2 _) _) (fun j h6 h7 => ?_)]
      · rw [hx, Int.toNat_natCast, Int.add_assoc]; rfl
      · rcases Nat.lt_or_ge j (n + x.own.toNat) with h9 | h9
        · exact low j h6 h9
        · obtain ⟨i, rfl⟩ := Nat.exists_eq_add_of_le h9
          rw [← Nat.add_assoc] at h7
          have hi := Nat.lt_of_add_lt_add_left h7
          have hd := List.getElem?_eq_getElem (Nat.lt_trans hi hk2)
          rw [Nat.add_assoc, hPp i _ hd]
          exact h5 _ _ hi hd
end TZ1

section TZ2
open PySem PySem.W PyProof.Rows PySem.Calls PySem.Spec
set_option maxRecDepth 100000
set_option maxHeartbeats 2000000
noncomputable def TextAt (P : Params) (T : Led) (props : Addr) (chs : List Pl) : Prop := ∃ ioc, Tx P T props ioc ∧ expI ioc = chs
theorem TextAt.mono {P : Params} {T T' : Led} {props : Addr} {chs : List Pl} (h : TextAt P T props chs) (s : ∀ p ∈ T, p ∈ T') : TextAt P T' props chs := by
  obtain ⟨ioc, a, b⟩ := h
  exact ⟨ioc, a.mono s, b⟩
noncomputable def nxG {α : Type} [DecidableEq α] (l : List α) (at_ limit : Int) : Option Int := if at_ < l.length then nextG l (l[at_.toNat]?) ((if (l.length : Int) < limit then (l.length : Int) else limit) - (at_ + 1)).toNat (at_.toNat + 1) else none
noncomputable def laG {α : Type} [DecidableEq α] (l : List α) (at_ limit : Int) : Option Int := if 0 < at_ then aboveG limit (lastG l (l[(at_ - 1).toNat]?) (at_ - 1).toNat) else none
theorem Tx.goodI {P : Params} {T : Led} {props : Addr} {ioc : Ioc} (H : Tx P T props ioc) : GoodI ioc := fun x hx => H.good _ (List.mem_map.mpr ⟨x, hx, rfl⟩)
theorem exp_mem {l : Ioc} {c : Pl} (h : c ∈ expI l) : ∃ x, (x, c) ∈ l := by
  induction l with
  | nil => simp [expI] at h
  | cons p l ih =>
    obtain ⟨x, d⟩ := p
    rw [expI_cons, List.mem_append] at h
    rcases h with h | h
    · obtain rfl := List.eq_of_mem_replicate h
      exact ⟨x, List.mem_cons_self⟩
    · obtain ⟨y, hy⟩ := ih h
      exact ⟨y, List.mem_cons_of_mem _ hy⟩
theorem samePl_dec {a b : Pl} (ca : Canon a) (cb : Canon b) : samePl a b = decide (a = b) := by
  by_cases e : a = b
  · subst e
    simp only [samePl, decide_true, Bool.true_and, List.all_eq_true]
    intro p hp
    simp only [holdsP, plGet_of_mem ca p hp, pvEq, decide_true]
  · rw [decide_eq_false e, Bool.eq_false_iff]
    exact fun h => e (samePl_eq ca cb h)
section
variable {prog : Program} {w : World} {news : Led} {props rules : Addr} {chs : List Pl} {at_ limit number : Int} {ta tl tn : Tok} {held : PV}
theorem next_change_all (H : TextAt w.params news props chs) (h0 : 0 ≤ at_) : FnR prog w 17 385 [.ref props, .int at_ ta, .int limit tl] news (fun r => optI (nxG chs at_ limit) r) := by
  obtain ⟨ioc, H, rfl⟩ := H
  have g := H.goodI
  have hlen := expI_len g
  by_cases h : at_ < tots ioc
  · obtain ⟨pre, x, c, post, rfl, a, b⟩ := run_at g h0 h
    have := next_change_ok (ta := ta) (tl := tl) (limit := limit) (prog := prog) H a b
    rw [nxG, if_pos (by (first | lia | omega)), pure_next (f := id) g (List.map_id _).symm a b (h := fun c' => samePl c' c)]
    · exact this
    · intro c' hc'
      obtain ⟨y, hy⟩ := exp_mem hc'
      exact samePl_dec (H.ok (y, c') (List.mem_append_right _ hy)).2.2.1 (H.ok (x, c) (List.mem_append_right _ List.mem_cons_self)).2.2.1
  · rw [nxG, if_neg (by (first | lia | omega))]
    exact next_change_none_ok H (by (first | lia | omega))
theorem next_single_all (HR : HasRules w.params news rules held) (hk9 : number ≠ 100) (H : TextAt w.params news props chs) (h0 : 0 ≤ at_) : FnR prog w 17 392 [.ref props, .ref rules, .int at_ ta, .int number tn, .int limit tl] news (fun r => optI (nxG (chs.map fun c => valIn c number held) at_ limit) r) := by
  obtain ⟨ioc, H, rfl⟩ := H
  have g := H.goodI
  have hlen := expI_len g
  by_cases h : at_ < tots ioc
  · obtain ⟨pre, x, c, post, rfl, a, b⟩ := run_at g h0 h
    have := next_single_ok (ta := ta) (tl := tl) (tn := tn) (limit := limit) (prog := prog) HR hk9 H a b
    rw [nxG, if_pos (by rw [List.length_map]; (first | lia | omega)), pure_next (f := fun c => valIn c number held) g rfl a b (h := fun c' => pvEq (valIn c' number held) (valIn c number held)) (fun _ _ => rfl)]
    exact this
  · rw [nxG, if_neg (by rw [List.length_map]; (first | lia | omega))]
    exact next_single_none_ok HR hk9 H (by (first | lia | omega))
theorem previous_change_all (H : TextAt w.params news props chs) (h1 : at_ ≤ chs.length) : FnR prog w 17 399 [.ref props, .int at_ ta, .int limit tl] news (fun r => optI (laG chs at_ limit) r) := by
  obtain ⟨ioc, H, rfl⟩ := H
  have g := H.goodI
  have hlen := expI_len g
  by_cases h : 0 < at_
  · obtain ⟨pre, x, c, post, rfl, a, b⟩ := run_at (k := at_ - 1) g (by (first | lia | omega)) (by (first | lia | omega))
    have := previous_change_ok (ta := ta) (tl := tl) (limit := limit) (prog := prog) H a b
    rw [laG, if_pos h, pure_last (f := id) g (List.map_id _).symm a b (h := fun c' => samePl c' c)]
    · exact this
    · intro c' hc'
      obtain ⟨y, hy⟩ := exp_mem hc'
      exact samePl_dec (H.ok (y, c') (List.mem_append_left _ hy)).2.2.1 (H.ok (x, c) (List.mem_append_right _ List.mem_cons_self)).2.2.1
  · rw [laG, if_neg h]
    exact previous_change_none_ok H (by (first | lia | omega))
theorem previous_single_all (HR : HasRules w.params news rules held) (hk9 : number ≠ 100) (H : TextAt w.params news props chs) (h1 : at_ ≤ chs.length) : FnR prog w 17 406 [.ref props, .ref rules, .int at_ ta, .int number tn, .int limit tl] news (fun r => optI (laG (chs.map fun c => valIn c number held) at_ limit) r) := by
  obtain ⟨ioc, H, rfl⟩ := H
  have g := H.goodI
  have hlen := expI_len g
  by_cases h : 0 < at_
  · obtain ⟨pre, x, c, post, rfl, a, b⟩ := run_at (k := at_ - 1) g (by (first | lia | omega)) (by (first | lia | omega))
    have := previous_single_ok (ta := ta) (tl := tl) (tn := tn) (limit := limit) (prog := prog) HR hk9 H a b
    rw [laG, if_pos h, pure_last (f := fun c => valIn c number held) g rfl a b (h := fun c' => pvEq (valIn c' number held) (valIn c number held)) (fun _ _ => rfl)]
    exact this
  · rw [laG, if_neg h]
    exact previous_single_none_ok HR hk9 H (by (first | lia | omega))
/-- the places that show the value y -/
noncomputable abbrev shows (looks : List PV) (y : PV) (j : Nat) : Bool := decide (looks[j]? = some y)
theorem first_with_all {v : Value} {y : PV} (HR : HasRules w.params news rules held) (hk9 : number ≠ 100) (hv : PVal [] v y) (hy : y.isSym = false) (H : TextAt w.params news props chs) (h0 : 0 ≤ at_) (h1 : at_ ≤ chs.length) :
    FnR prog w 19 413 [.ref props, .ref rules, .int at_ ta, .int chs.length tl, .int number tn, v] news (fun r => optI (placesF (shows (chs.map fun c => valIn c number held) y) at_.toNat (chs.length - at_).toNat).head? r) := by
  obtain ⟨ioc, H, rfl⟩ := H
  have g := H.goodI
  have hlen := expI_len g
  by_cases h : at_ < tots ioc
  · obtain ⟨pre, x, c, post, rfl, a, b⟩ := run_at g h0 h
    have := first_with_ok (ta := ta) (tl := tl) (tn := tn) (prog := prog) HR hk9 hv hy (rows_between_ok H a b hlen)
    rw [hlen, pure_first (h := fun c => pvEq (valIn c number held) y) g a b]
    · rw [hlen] at this
      exact this
    · intro j c' hj
      simp only [shows, List.getElem?_map, hj, Option.map_some, Option.some.injEq, pvEq]
  · have := first_with_ok (ta := ta) (tl := tl) (tn := tn) (prog := prog) (props := props) HR hk9 hv hy (rows_between_none_ok (begin := at_) (end_ := (expI ioc).length) (by (first | lia | omega)))
    rw [show ((expI ioc).length - at_).toNat = 0 by (first | lia | omega)]
    exact this
theorem first_without_all {v : Value} {y : PV} (HR : HasRules w.params news rules held) (hk9 : number ≠ 100) (hv : PVal [] v y) (hy : y.isSym = false) (H : TextAt w.params news props chs) (h0 : 0 ≤ at_) (h1 : at_ ≤ chs.length) :
    FnR prog w 19 420 [.ref props, .ref rules, .int at_ ta, .int chs.length tl, .int number tn, v] news (fun r => optI (placesF (fun j => !shows (chs.map fun c => valIn c number held) y j) at_.toNat (chs.length - at_).toNat).head? r) := by
  obtain ⟨ioc, H, rfl⟩ := H
  have g := H.goodI
  have hlen := expI_len g
  by_cases h : at_ < tots ioc
  · obtain ⟨pre, x, c, post, rfl, a, b⟩ := run_at g h0 h
    have := first_without_ok (ta := ta) (tl := tl) (tn := tn) (prog := prog) HR hk9 hv hy (rows_between_ok H a b hlen)
    rw [hlen, pure_first (h := fun c => !pvEq (valIn c number held) y) g a b]
    · rw [hlen] at this
      exact this
    · intro j c' hj
      simp only [shows, List.getElem?_map, hj, Option.map_some, Option.some.injEq, pvEq]
  · have := first_without_ok (ta := ta) (tl := tl) (tn := tn) (prog := prog) (props := props) HR hk9 hv hy (rows_between_none_ok (begin := at_) (end_ := (expI ioc).length) (by (first | lia | omega)))
    rw [show ((expI ioc).length - at_).toNat = 0 by (first | lia | omega)]
    exact this
end
end TZ2

section TH5
open PySem PySem.W PyProof.Rows PySem.Calls PySem.Spec
set_option maxRecDepth 100000
set_option maxHeartbeats 4000000
section
variable {prog : Program} {w : World} {news : Led}
theorem lnj60 : True := by
  (k_with "mine rules" => ((fail_if_success k_extra "off j40"); first | with_reducible assumption | exact HasRules.mono (by with_reducible assumption) (by k_extra "mine sub")))
  (k_with "mine props" => ((fail_if_success k_extra "off j40"); first | with_reducible assumption | exact HasProps.mono (by with_reducible assumption) (by k_extra "mine sub")))
  (k_with "getAttr ref#" => ((fail_if_success k_extra "off j40"); (k_here; (with_reducible show wpAny _ _ (getAttr (Value.ref _) (Str.ofString "tree") _) _ _ _); k_dflt (refine' get_tree ?k1_q ?k2_q ?k3_q ?k4_q ?_; (case k1_q => k_asm); (case k2_q => k_asm); (case k3_q => k_asm); (case k4_q => k_extra "mine props")))))
  (k_with "mine units" => ((fail_if_success k_extra "off j40"); (have hcL9 := cLine_is; (try simp only [units_under_make, units_in1, units_deeper, Around.mark_units, units_caller] at *); (try dsimp only [ktrTop] at *); omega)))
  (k_with "getMethod ref#" => ((fail_if_success k_extra "off j40"); (k_here; (with_reducible show wpAny _ _ (getMethod (Value.ref _) (Str.ofString "get") _) _ _ _); k_dflt (refine' kdg_method (knd := PySem.intKind _ _) ?k1_q ?k2_q ?k3_q ?_; (case k1_q => k_asm); (case k2_q => k_mem); (case k3_q => k_asm)))))
  (k_with "call builtin:dict.get#" => ((fail_if_success k_extra "off j40"); (k_here; (with_reducible show wpAny _ _ (call (Value.builtin "dict.get") [Value.ref _, Value.int _ _, _]) _ _ _); k_dflt (refine' kdg_get2 (knd := PySem.intKind _ _) ?k1_q ?k2_q ?k3_q ?k4_q (intKind_is _ _ _ _) (some _) ?k5_q ?_; (case k1_q => k_asm); (case k2_q => k_mem); (case k3_q => k_asm); (case k4_q => k_asm); (case k5_q => rfl); (try dsimp only [Option.getD])))))
  trivial
theorem int_dict {p2 : Program} {w2 : World} {o : Obj} {kvs : List (Int × Value)} (h : o.IsDictOf (intKind prog w) kvs) : o.IsDictOf (intKind p2 w2) kvs := by
  obtain ⟨es, ep, a, b, c, d, e⟩ := h
  refine ⟨es, ep, a, b, fun x hx => c x hx, ?_, e⟩
  clear a b c e
  generalize es.toList = l at d
  induction d with
  | nil => exact .nil
  | cons h1 h2 _ ih => exact .cons h1 h2 ih
theorem lisp_ok {t : Tok} : FnX prog w 2 487 [.int 100 t] news (fun r news' => ∃ x d pd o s0 s1 s2 s3, r = .ref x ∧ news' = (pd, o) :: (x, instObj 487 d) :: (d, dictOf [ent w.params "first" s0 (.int 100 t), ent w.params "nil" s1 .none, ent w.params "true" s2 (.bool true), ent w.params "plists" s3 (.ref pd)] 4) :: news ∧ o.IsDictOf (intKind prog w) [] ∧ (pd == sysModules) = false ∧ Newer [(pd, o), (x, instObj 487 d), (d, dictOf [ent w.params "first" s0 (.int 100 t), ent w.params "nil" s1 .none, ent w.params "true" s2 (.bool true), ent w.params "plists" s3 (.ref pd)] 4)] news ∧ @Ne Nat pd x ∧ @Ne Nat pd d ∧ @Ne Nat x d) := by
  (first | with_reducible refine FnR.intro ?_ | with_reducible refine FnX.intro ?_ | with_reducible refine FnM.intro ?_ | with_reducible refine @Mine.FnS.intro _ _ _ _ _ _ _ _ _ _ ?_)
  intro p loose mean mg mb dp un gd cn cs a9 ccd cl outer A₀ base h₀ L m hp gn dr tk0 os Q E B X T hk F N hd hu hret
  k_dflt (refine' call_cls ?k1 ?k2 ?k3 ?k4 ?k5 ?k6 ?_; (case k1 => k_asm); (case k2 => k_asm); (case k3 => k_asm); (case k4 => k_is); (case k5 => k_is); (case k6 => k_is); k_whole; intro x' d' h' F' N' l1 l2; k_lt2 l2)
  have l3 := l1
  k_dflt ktr_enter
  refine wpAny_mono ?_ (fun _ _ x => x) (fun _ _ (x : False) => x.elim)
  k_extra "mine steps"
  refine hret _ _ _ _ (by k_asm) (by k_asm) ⟨x', d', _, _, _, _, _, _, rfl, rfl, by with_reducible assumption, by with_reducible assumption, Newer.cons (by grind only) (Newer.cons (allLt_of fun p hp => Nat.lt_trans (l3 p hp) l2) (Newer.cons (allLt_of l3) Newer.nil)), ?_, ?_, ?_⟩
  all_goals grind only
noncomputable def nmA : Array Value := #[.str (Str.ofString "category") 779, .str (Str.ofString "front-sticky") 780, .str (Str.ofString "rear-nonsticky") 781, .str (Str.ofString "evaporate") 782, .str (Str.ofString "priority") 783]
theorem nmK {P : Params} : (Mine.K0 P).lookup 421 = some { cls := .type "tuple", data := .seq nmA } := by with_unfolding_all rfl
theorem nmStr : ∀ y, y ∈ nmA → ∃ a u, y = Value.str a u := by
  intro y hy
  simp only [nmA, List.mem_toArray, List.mem_cons, List.not_mem_nil, or_false] at hy
  rcases hy with rfl | rfl | rfl | rfl | rfl <;> exact ⟨_, _, rfl⟩
section
variable {A : Around} {E : Value → Shared → Prop} {s : Shared} {h₀ : Heap} {L : Addr} {m : Str → Option Value}
theorem nm_method {pl : Sem Bool} {Q : Value × List Value → Shared → Prop} (F : Fr h₀ L s.heap m) (X : (Mine.K0 w.params).In h₀) (h : Q (.builtin "tuple.index", [.ref 421]) s) : wpAny (model prog w) A (getMethod (.ref 421) (Str.ofString "index") pl) Q E s :=
  ti_method (X.keeps F.keep _ _ nmK) h
theorem nm_call {nm : Str} {t : Tok} {Q : Value → Shared → Prop} (F : Fr h₀ L s.heap m) (X : (Mine.K0 w.params).In h₀) {j : Nat} (hj : j < 5) (hit : isStrV nm (nmA[j]'hj) = true) (hno : ∀ m (hm : m < 5), m < j → isStrV nm (nmA[m]'hm) = false) (h : Q (.int j s.toks) { s with toks := s.toks + 1 }) : wpAny (model prog w) A (call (.builtin "tuple.index") [.ref 421, .str nm t]) Q E s :=
  ti_call (X.keeps F.keep _ _ nmK) nmStr j hj hit hno h
end
theorem lnj61 : True := by
  (k_with "getMethod ref#" => ((fail_if_success k_extra "off j41"); (k_here; (with_reducible show wpAny _ _ (getMethod (Value.ref 421) (Str.ofString "index") _) _ _ _); k_dflt (refine' nm_method ?k1_q ?k2_q ?_; (case k1_q => k_asm); (case k2_q => k_asm)))))
  (k_with "call builtin:tuple.index#" => ((fail_if_success k_extra "off j41"); (k_here; (with_reducible show wpAny _ _ (call (Value.builtin "tuple.index") _) _ _ _); k_dflt (refine' nm_call ?k1_q ?k2_q ?k3_q ?k4_q ?k5_q ?_; (case k1_q => k_asm); (case k2_q => k_asm); (case k3_q => with_reducible assumption); (case k4_q => with_reducible assumption); (case k5_q => with_reducible assumption)))))
  trivial
theorem number_ok {nm : Str} {lisp ld pd : Addr} {t tn s0 s1 s2 s3 : Tok} (h1 : (lisp, instObj 487 ld) ∈ news) (h2 : (ld, dictOf [ent w.params "first" s0 (.int 100 t), ent w.params "nil" s1 .none, ent w.params "true" s2 (.bool true), ent w.params "plists" s3 (.ref pd)] 4) ∈ news)
    {j : Nat} (hj : j < 5) (hit : isStrV nm (nmA[j]'hj) = true) (hno : ∀ m (hm : m < 5), m < j → isStrV nm (nmA[m]'hm) = false) :
    FnR prog w 1 442 [.ref lisp, .str nm tn] news (fun r => ∃ t, r = .int (100 + j) t) := by
  (first | with_reducible refine FnR.intro ?_ | with_reducible refine FnX.intro ?_ | with_reducible refine FnM.intro ?_ | with_reducible refine @Mine.FnS.intro _ _ _ _ _ _ _ _ _ _ ?_)
  intro p loose mean mg mb dp un gd cn cs a9 ccd cl outer A₀ base h₀ L m hp gn dr tk0 os Q E B X T hk F N hd hu hret
  refine enter [(Str.ofString "self", .ref lisp), (Str.ofString "name", .str nm tn)] B F X N T rfl rfl hk (by k_is) (by k_is) (by ((conv => lhs; whnf); all_goals exact rfl)) (by ((conv => lhs; whnf); all_goals exact rfl)) (by ktr_room) (BindsTo.of_eq rfl) (locs rfl) ?_ rfl rfl rfl (by decide)
  intro g' L' h' FG' F' N' B' X' T'
  (try dsimp only)
  (try k_fold)
  refine fold_A ?_
  intro en9 ak9 hAu9
  have S9 : Site w ak9 (dp + 1) (un + 3) g' L' := Site.mk B' X' T' rfl
  k_extra "mine steps"
  first | exact hret _ _ _ (by k_asm) (by k_extra "mine drop") ⟨_, rfl⟩ | w_report
theorem number_0 {lisp ld pd : Addr} {t tn s0 s1 s2 s3 : Tok} (h1 : (lisp, instObj 487 ld) ∈ news) (h2 : (ld, dictOf [ent w.params "first" s0 (.int 100 t), ent w.params "nil" s1 .none, ent w.params "true" s2 (.bool true), ent w.params "plists" s3 (.ref pd)] 4) ∈ news) : FnR prog w 1 442 [.ref lisp, .str (Str.ofString "category") tn] news (fun r => ∃ t, r = .int 100 t) := number_ok h1 h2 (j := 0) (by decide) (by decide +kernel) (by decide +kernel)
theorem number_1 {lisp ld pd : Addr} {t tn s0 s1 s2 s3 : Tok} (h1 : (lisp, instObj 487 ld) ∈ news) (h2 : (ld, dictOf [ent w.params "first" s0 (.int 100 t), ent w.params "nil" s1 .none, ent w.params "true" s2 (.bool true), ent w.params "plists" s3 (.ref pd)] 4) ∈ news) : FnR prog w 1 442 [.ref lisp, .str (Str.ofString "front-sticky") tn] news (fun r => ∃ t, r = .int 101 t) := number_ok h1 h2 (j := 1) (by decide) (by decide +kernel) (by decide +kernel)
theorem number_2 {lisp ld pd : Addr} {t tn s0 s1 s2 s3 : Tok} (h1 : (lisp, instObj 487 ld) ∈ news) (h2 : (ld, dictOf [ent w.params "first" s0 (.int 100 t), ent w.params "nil" s1 .none, ent w.params "true" s2 (.bool true), ent w.params "plists" s3 (.ref pd)] 4) ∈ news) : FnR prog w 1 442 [.ref lisp, .str (Str.ofString "rear-nonsticky") tn] news (fun r => ∃ t, r = .int 102 t) := number_ok h1 h2 (j := 2) (by decide) (by decide +kernel) (by decide +kernel)
theorem number_3 {lisp ld pd : Addr} {t tn s0 s1 s2 s3 : Tok} (h1 : (lisp, instObj 487 ld) ∈ news) (h2 : (ld, dictOf [ent w.params "first" s0 (.int 100 t), ent w.params "nil" s1 .none, ent w.params "true" s2 (.bool true), ent w.params "plists" s3 (.ref pd)] 4) ∈ news) : FnR prog w 1 442 [.ref lisp, .str (Str.ofString "evaporate") tn] news (fun r => ∃ t, r = .int 103 t) := number_ok h1 h2 (j := 3) (by decide) (by decide +kernel) (by decide +kernel)
theorem number_4 {lisp ld pd : Addr} {t tn s0 s1 s2 s3 : Tok} (h1 : (lisp, instObj 487 ld) ∈ news) (h2 : (ld, dictOf [ent w.params "first" s0 (.int 100 t), ent w.params "nil" s1 .none, ent w.params "true" s2 (.bool true), ent w.params "plists" s3 (.ref pd)] 4) ∈ news) : FnR prog w 1 442 [.ref lisp, .str (Str.ofString "priority") tn] news (fun r => ∃ t, r = .int 104 t) := number_ok h1 h2 (j := 4) (by decide) (by decide +kernel) (by decide +kernel)
inductive RulesAt (P : Params) (T : Led) (rules lisp : Addr) : Prop
  | mk (dr df : Addr) (t0 t1 t2 t3 t4 t5 t6 t7 t8 u0 u1 u2 u3 u4 : Tok) (m1 : (rules, instObj 283 dr) ∈ T)
    (m2 : (dr, dictOf [ent P "lisp" t0 (.ref lisp), ent P "nil" t1 .none, ent P "true" t2 (.bool true), ent P "category" t3 (.int 100 u0), ent P "front_sticky" t4 (.int 101 u1), ent P "rear_nonsticky" t5 (.int 102 u2), ent P "evaporate" t6 (.int 103 u3), ent P "priority" t7 (.int 104 u4), ent P "defaults" t8 (.ref df)] 9) ∈ T)
theorem lnj62 : True := by
  (k_with "call ref#" => ((fail_if_success k_extra "off j41"); (k_here; (with_reducible show wpAny _ _ (call (Value.ref 442) _ _) _ _ _); k_dflt ((first | (refine' FnR.use (number_0 ?h1_q ?h2_q) ?S_q ?F_q ?N_q ?hd_q ?hu_q ?_) | (refine' FnR.use (number_1 ?h1_q ?h2_q) ?S_q ?F_q ?N_q ?hd_q ?hu_q ?_) | (refine' FnR.use (number_2 ?h1_q ?h2_q) ?S_q ?F_q ?N_q ?hd_q ?hu_q ?_) | (refine' FnR.use (number_3 ?h1_q ?h2_q) ?S_q ?F_q ?N_q ?hd_q ?hu_q ?_) | (refine' FnR.use (number_4 ?h1_q ?h2_q) ?S_q ?F_q ?N_q ?hd_q ?hu_q ?_)); (case N_q => k_asm); (case h1_q => k_mem); (case h2_q => k_mem); (case S_q => first | with_reducible assumption | exact Site.mk (by k_asm) (by k_asm) (by k_asm) (by first | exact rfl | with_reducible assumption)); (case F_q => k_asm); (case hd_q => first | exact room (by with_reducible assumption) rfl | ktr_room); (case hu_q => first | exact unitsL (by with_reducible assumption) rfl | ktr_units); intro r9 h9 tk9 F9 N9 post9; obtain ⟨t9, e8⟩ := post9; subst e8; (try dsimp only); (try k_sweep)))))
  trivial
theorem rules_ok {lisp ld pd : Addr} {t s0 s1 s2 s3 : Tok} (h1 : (lisp, instObj 487 ld) ∈ news) (h2 : (ld, dictOf [ent w.params "first" s0 (.int 100 t), ent w.params "nil" s1 .none, ent w.params "true" s2 (.bool true), ent w.params "plists" s3 (.ref pd)] 4) ∈ news) :
    FnX prog w 4 283 [.ref lisp] news (fun r news' => ∃ x rl, r = .ref rl ∧ news' = x ++ news ∧ Newer x news ∧ RulesAt w.params x rl lisp) := by
  (first | with_reducible refine FnR.intro ?_ | with_reducible refine FnX.intro ?_ | with_reducible refine FnM.intro ?_ | with_reducible refine @Mine.FnS.intro _ _ _ _ _ _ _ _ _ _ ?_)
  intro p loose mean mg mb dp un gd cn cs a9 ccd cl outer A₀ base h₀ L m hp gn dr tk0 os Q E B X T hk F N hd hu hret
  k_dflt (refine' call_cls ?k1 ?k2 ?k3 ?k4 ?k5 ?k6 ?_; (case k1 => k_asm); (case k2 => k_asm); (case k3 => k_asm); (case k4 => k_is); (case k5 => k_is); (case k6 => k_is); k_whole; intro x' d' h' F' N' l1 l2; k_lt2 l2)
  have l3 := l1
  k_dflt ktr_enter
  refine wpAny_mono ?_ (fun _ _ x => x) (fun _ _ (x : False) => x.elim)
  k_extra "mine steps"
  refine hret _ _ _ _ (by k_asm) (by k_asm) ⟨[_, _, _], x', rfl, rfl, Newer.cons (by grind only) (Newer.cons (allLt_of fun p hp => Nat.lt_trans (l3 p hp) l2) (Newer.cons (allLt_of l3) Newer.nil)), d', _, _, _, _, _, _, _, _, _, _, _, _, _, _, _, List.mem_cons_of_mem _ List.mem_cons_self, List.mem_cons_of_mem _ (List.mem_cons_of_mem _ List.mem_cons_self)⟩
end
end TH5

section TK1
open PySem PySem.W PyProof.Rows PySem.Calls PySem.Spec
set_option maxRecDepth 100000
set_option maxHeartbeats 8000000
theorem lnj63 : True := by
  (k_with "off j41" => skip)
  (k_with "off j40" => skip)
  (k_with "call ref#" => ((fail_if_success k_extra "off j42"); (k_here; (with_reducible show wpAny _ _ (call (Value.ref 505) _ _) _ _ _); k_dflt ((refine' FnD.useP (law_value_ok ?hi_q ?hD_q ?hc_q ?hc2_q) ?S_q ?F_q ?N_q ?hd_q ?hu_q ?_; (case N_q => refine' News.cutD ?kN_q ?kC_q; (case kN_q => k_asm); (case kC_q => k_extra "mine cutD")); (case hi_q => first | with_reducible assumption | exact IsInts.mono (by with_reducible assumption) (by k_extra "mine sub")); (case hD_q => first | with_reducible assumption | k_all); (case hc_q => (first | lia | omega)); (case hc2_q => (first | lia | omega))); (case S_q => first | with_reducible assumption | exact Site.mk (by k_asm) (by k_asm) (by k_asm) (by first | exact rfl | with_reducible assumption)); (case F_q => k_asm); (case hd_q => first | exact room (by with_reducible assumption) rfl | ktr_room); (case hu_q => first | exact unitsL (by with_reducible assumption) rfl | ktr_units); intro r9 c9 t9 n9 h9 tk9 y9 F9 hlo9 hhi9 N9 hy9 hs9; (try k_sweep)))))
  (k_with "call ref#" => ((fail_if_success k_extra "off j42"); (k_here; (with_reducible show wpAny _ _ (call (Value.ref 498) _ _) _ _ _); k_dflt ((refine' FnD.useI (law_draw_ok ?hi_q ?hD_q ?hc_q ?hc2_q ?hm_q ?hm2_q) ?S_q ?F_q ?N_q ?hd_q ?hu_q ?_; (case N_q => refine' News.cutD ?kN_q ?kC_q; (case kN_q => k_asm); (case kC_q => k_extra "mine cutD")); (case hi_q => first | with_reducible assumption | exact IsInts.mono (by with_reducible assumption) (by k_extra "mine sub")); (case hD_q => first | with_reducible assumption | k_all); (case hc_q => (first | lia | omega)); (case hc2_q => (first | lia | omega)); (case hm_q => first | decide | (first | lia | omega)); (case hm2_q => first | decide | (first | lia | omega))); (case S_q => first | with_reducible assumption | exact Site.mk (by k_asm) (by k_asm) (by k_asm) (by first | exact rfl | with_reducible assumption)); (case F_q => k_asm); (case hd_q => first | exact room (by with_reducible assumption) rfl | ktr_room); (case hu_q => first | exact unitsL (by with_reducible assumption) rfl | ktr_units); intro c9 t9 n9 h9 tk9 v9 tv9 F9 hlo9 hhi9 N9 hv0 hv1; (try k_sweep)))))
  (k_with "call ref#" => ((fail_if_success k_extra "off j42"); (k_here; (with_reducible show wpAny _ _ (call (Value.ref 512) _ _) _ _ _); k_dflt ((refine' FnD.useL (law_plist_ok ?hi_q ?hD_q ?hc_q ?hc2_q) ?S_q ?F_q ?N_q ?hd_q ?hu_q ?_; (case N_q => refine' News.cutD ?kN_q ?kC_q; (case kN_q => k_asm); (case kC_q => k_extra "mine cutD")); (case hi_q => first | with_reducible assumption | exact IsInts.mono (by with_reducible assumption) (by k_extra "mine sub")); (case hD_q => first | with_reducible assumption | k_all); (case hc_q => (first | lia | omega)); (case hc2_q => (first | lia | omega))); (case S_q => first | with_reducible assumption | exact Site.mk (by k_asm) (by k_asm) (by k_asm) (by first | exact rfl | with_reducible assumption)); (case F_q => k_asm); (case hd_q => first | exact room (by with_reducible assumption) rfl | ktr_room); (case hu_q => first | exact unitsL (by with_reducible assumption) rfl | ktr_units); intro c9 t9 n9 x9 h9 tk9 pl9 l9 F9 hlo9 hhi9 N9 hx9 hp9 hw9 hcn9 hl9; (try k_sweep)))))
  (k_with "CompSrc#" => ((fail_if_success k_extra "off j42"); (k_here; k_dflt (first | (refine' compSrc_list ?k0_q ?k1_q ?k2_q ?k3_q ?k4_q ?_; (case k0_q => rfl); (case k1_q => k_asm); (case k2_q => k_asm); (case k3_q => k_mem); (case k4_q => (simp only [List.size_toArray]; (first | lia | omega))); intro g9) | (refine' compSrc_range ?k0_q ?k1_q ?k2_q ?k3_q ?k4_q ?k5_q ?_; (case k0_q => rfl); (case k1_q => k_asm); (case k2_q => k_asm); (case k3_q => with_reducible assumption); (case k4_q => (first | lia | omega)); (case k5_q => (first | lia | omega)); intro g9)))))
  (k_with "exec Assign cons ListComp#" => ((fail_if_success k_extra "off j42"); (refine stop_any ?_)))
  trivial
theorem ne_cons {D a : Addr} {o : Obj} {l : Led} (h : a ≠ D) (r : ∀ p ∈ l, p.1 ≠ D) : ∀ p ∈ (a, o) :: l, p.1 ≠ D := List.forall_mem_cons.mpr ⟨h, r⟩
theorem ne_app {D : Addr} {x l : Led} (h : ∀ p ∈ x, p.1 ≠ D) (r : ∀ p ∈ l, p.1 ≠ D) : ∀ p ∈ x ++ l, p.1 ≠ D := fun p hp => (List.mem_append.mp hp).elim (h p) (r p)
theorem lnj64 : True := by
  (k_with "mine all" => ((fail_if_success k_extra "off j42"); first | with_reducible assumption | (refine ne_cons (by first | with_reducible assumption | grind only) ?_; k_all) | (refine ne_app (by with_reducible assumption) ?_; k_all)))
  trivial
theorem RowItems.snoc {T : Led} {vs : List Value} {l : List Row} (h : RowItems T vs l) {r : Row} {q : Addr} {t : Tok} (hm : (q, tupObj [.int r.many t, .ref r.pl]) ∈ T) (ho : r.Ok T) : RowItems T (vs ++ [.ref q]) (l ++ [r]) := by
  induction h with
  | nil => exact .cons hm ho .nil
  | cons hm' ho' _ ih => exact .cons hm' ho' ih
noncomputable def RowsJ (D dl : Addr) (R : Led) (i : Nat) (ys : List Value) (nx : Led) : Prop :=
  ∃ x c t n rows, nx = (D, deckO dl c t n) :: (x ++ R) ∧ (∀ p ∈ x, p.1 ≠ D) ∧ Apart x R ∧ 0 ≤ c ∧ c ≤ 1 + 5 * (i : Int) ∧ RowItems x ys rows ∧ rows.length = i
noncomputable abbrev lawEnv (sc : PySem.Scope) (L fa : Addr) (cd : Value) (c1 c2 c3 c4 c5 c6 : Addr) : Env := envX (Str.ofString "law") sc L fa cd [(Str.ofString "with_it", c6), (Str.ofString "value", c5), (Str.ofString "looks", c4), (Str.ofString "number", c3), (Str.ofString "my_held", c2), (Str.ofString "deck", c1)]
section
variable {w : World} {p : Program} {loose : List Str} {mean : ExcName → Option Value} {mg mb : Str → Option Value} {h₀ : Heap} {L fa c1 c2 c3 c4 c5 c6 D dl : Addr} {o1 : Obj} {m : Str → Option Value} {s : Shared} {cd : Value} {Q : Flow → Shared → Prop} {E : Value → Shared → Prop} {sc : PySem.Scope} {b b2 : List Stmt} {R : Led} {t : Tok} {n : Nat}
theorem st1 (hsc : sc = scopeAt w.params 543) (hb : b = lawRest w.params 1) (hb2 : b2 = lawRest w.params 2) (B : Below callerA h₀ [] h₀) (F : Fr h₀ L s.heap m) (X : (Mine.K0 w.params).In h₀) (T : Top p loose mean mg mb h₀)
    (N : News h₀ L s.heap ((D, deckO dl 0 t n) :: R)) (hi : IsInts R dl) (hc1 : (c1, o1) ∈ R) (d1 : o1.data = .cell (some (.ref D))) (hR : ∀ p ∈ R, p.1 ≠ D)
    (next : ∀ ra ys nx h' tk k, Fr h₀ L h' (fun z => if z = Str.ofString "my_rows" then some (.ref ra) else m z) → News h₀ L h' ((ra, LCg.lst ys) :: nx) → (∀ p ∈ nx, p.1 ≠ ra) → RowsJ D dl R k ys nx → 1 ≤ k → k ≤ 6 →
      wpAny (model PySem.Challenge.rw_np0087_01.row.prog w) (callerA.deeper (lawEnv sc L fa cd c1 c2 c3 c4 c5 c6)) (execs b2 (lawEnv sc L fa cd c1 c2 c3 c4 c5 c6)) Q E { s with heap := h', toks := tk }) :
    wpAny (model PySem.Challenge.rw_np0087_01.row.prog w) (callerA.deeper (lawEnv sc L fa cd c1 c2 c3 c4 c5 c6)) (execs b (lawEnv sc L fa cd c1 c2 c3 c4 c5 c6)) Q E s := by
  conv at hsc => rhs; whnf
  conv at hb => rhs; whnf
  conv at hb2 => rhs; whnf
  subst hsc hb hb2
  (first | refine fold_st ?_ | refine fold_sts ?_)
  intro en9 ak9
  have hAu9 : ak9.units = callerA.units + 3 := rfl
  have S9 : Site w ak9 _ _ h₀ L := Site.mk B X T rfl
  k_extra "mine steps"
  apply LCg.Assign_ListComp_U (F₀ := by k_asm) (by rfl) (by with_unfolding_all rfl) (by with_unfolding_all rfl) (by decide) (by rfl) (by decide) (by rfl) (by rfl) (by rfl) ?_
  k_extra "mine steps"
  (try dsimp only)
  refine compU_by (RowsJ D dl R) ⟨[], _, _, _, [], rfl, fun _ h => (nomatch h), Apart.nil, by (first | lia | omega), by (first | lia | omega), .nil, rfl⟩ ?_ ?_
  · intro ys nx hJ
    intro ra h' tk' F' N' o1'
    exact next ra ys nx h' tk' _ F' N' (off1_ne o1') hJ (by (first | lia | omega)) (by (first | lia | omega))
  · rintro i v ys nx I oI C oC Dl m₂ h tk E' hi9 ⟨t8, hv⟩ ⟨x, c, t, n, rows, rfl, hxD, hxR, hc, hc8, hrows, hlen⟩ hC hx F' N' off ne
    subst hv
    have hID : I ≠ D := fun e => off.1.1 e.symm
    have hCD : C ≠ D := fun e => off.1.2.1 e.symm
    have hDD : Dl ≠ D := fun e => off.1.2.2 e.symm
    have hc2 : c ≤ 100 := by (first | lia | omega)
    have hc1x : (c1, o1) ∈ x ++ R := List.mem_append_right _ hc1
    have hix : IsInts (x ++ R) dl := hi.mono fun p hp => List.mem_append_right _ hp
    k_sweep
    k_extra "mine steps"
    rename_i tkA hloA hhiA cE q h2 F9 N9 l1
    have lq := allLt_lt l1.2
    have eL : (q, tupObj [.int (1 + v9) tkA, .ref pl9]) :: (x9 ++ (x ++ R)) = ((q, tupObj [.int (1 + v9) tkA, .ref pl9]) :: (x9 ++ x)) ++ R := by simp
    have hJ : RowsJ D dl R (i + 1) (ys ++ [.ref q]) ((D, deckO dl c9 t9 n9) :: (q, tupObj [.int (1 + v9) tkA, .ref pl9]) :: (x9 ++ (x ++ R))) := by
      refine ⟨(q, tupObj [.int (1 + v9) tkA, .ref pl9]) :: (x9 ++ x), c9, t9, n9, rows ++ [⟨1 + v9, pl9, l9⟩], by rw [eL], ?_, ?_, by (first | lia | omega), by (first | lia | omega), ?_, by simp [hlen]⟩
      · exact ne_cons (Nat.ne_of_gt l1.1) (ne_app (fun p hp => Nat.ne_of_gt (hx9 p hp _ List.mem_cons_self)) hxD)
      · exact Apart.cons (fun r hr => Nat.ne_of_lt (lq r (List.mem_append_right _ (List.mem_cons_of_mem _ (List.mem_cons_of_mem _ (List.mem_cons_of_mem _ (List.mem_append_right _ hr))))))) (Apart.app (hx9.apart.sub (fun r hr => List.mem_cons_of_mem _ (List.mem_cons_of_mem _ (List.mem_cons_of_mem _ (List.mem_cons_of_mem _ (List.mem_append_right _ hr)))))) hxR)
      · exact RowItems.snoc (hrows.mono fun p hp => List.mem_cons_of_mem _ (List.mem_append_right _ hp)) (r := ⟨1 + v9, pl9, l9⟩) List.mem_cons_self (Row.Ok.mk (show 1 ≤ 1 + v9 by (first | lia | omega)) (show 1 + v9 ≤ 3 by (first | lia | omega)) (hp9.mono fun p hp => List.mem_cons_of_mem _ (List.mem_append_left _ hp)) hw9 hcn9 hl9)
    refine LCg.CompEnd.intro F9 N9 _ (fun p hp => ?_) (Off3.cons' hID.symm hCD.symm hDD.symm (Off3.cons' (Nat.ne_of_gt (lq (I, oI) (List.mem_append_right _ List.mem_cons_self))) (Nat.ne_of_gt (lq (C, oC) (List.mem_append_right _ (List.mem_cons_of_mem _ List.mem_cons_self)))) (Nat.ne_of_gt (lq (Dl, _) (List.mem_append_right _ (List.mem_cons_of_mem _ (List.mem_cons_of_mem _ List.mem_cons_self))))) (Off3.app hx9.apart (List.mem_cons_of_mem _ List.mem_cons_self) (List.mem_cons_of_mem _ (List.mem_cons_of_mem _ List.mem_cons_self)) (List.mem_cons_of_mem _ (List.mem_cons_of_mem _ (List.mem_cons_of_mem _ List.mem_cons_self))) off.2))) trivial hJ
    simp only [List.mem_cons, List.mem_append] at hp ⊢
    grind only
end
end TK1

section TK2
open PySem PySem.W PyProof.Rows PySem.Calls PySem.Spec
set_option maxRecDepth 100000
set_option maxHeartbeats 8000000
theorem lnj65 : True := by
  (k_with "off j42" => skip)
  trivial
theorem rep_flat (k : Nat) (v : Value) : (List.replicate k [v]).flatten = List.replicate k v := by
  induction k with
  | zero => rfl
  | succ k ih => rw [List.replicate_succ, List.flatten_cons, ih, List.replicate_succ]; rfl
/-- the values that the list of characters holds -/
noncomputable def charsV (l : List Row) : List Value := l.flatMap fun r => List.replicate r.many.toNat (Value.ref r.pl)
theorem lnj66 : True := by
  (k_with "binaryOp Mult ref int#" => ((fail_if_success k_extra "off j43"); (k_here; (with_reducible show wpAny _ _ (binaryOp Operator.Mult (Value.ref _) (Value.int _ _)) _ _ _); k_dflt (refine' KMa.mul ?F_q ?N_q ?l_q ?lo_q ?hi_q ?z_q (rep_flat _ _) ?_; (case F_q => k_asm); (case N_q => k_asm); (case l_q => exact News.isList (by k_asm) (by k_mem)); (case lo_q => (first | lia | omega)); (case hi_q => (first | lia | omega)); (case z_q => (simp only [List.length_cons, List.length_nil]; (first | lia | omega))); intro D' h' F' N' l1; (try k_lt l1); (try k_sweep)))))
  (k_with "call builtin:list.extend#" => ((fail_if_success k_extra "off j43"); (k_here; (with_reducible show wpAny _ _ (call (Value.builtin "list.extend") [Value.ref _, Value.ref _] _) _ _ _); k_dflt (refine' my_extend ?F_q ?N_q ?b_q ?ne_q ?U_q ?z_q ?_; (case F_q => k_asm); (case N_q => k_asm); (case b_q => k_mem); (case U_q => k_upd); (case ne_q => with_reducible assumption); (case z_q => with_reducible assumption); intro h9 F9 N9; (try k_sweep)))))
  trivial
theorem chars_app (a b : List Row) : charsV (a ++ b) = charsV a ++ charsV b := List.flatMap_append
theorem chars_cons (r : Row) (b : List Row) : charsV (r :: b) = List.replicate r.many.toNat (Value.ref r.pl) ++ charsV b := rfl
theorem chars_len {T : Led} : ∀ {l : List Row}, (∀ r ∈ l, r.Ok T) → (charsV l).length ≤ 3 * l.length := by
  intro l
  induction l with
  | nil => intro _; simp [charsV]
  | cons r l ih =>
    intro h
    have h1 := ih fun r hr => h r (List.mem_cons_of_mem _ hr)
    have h2 := (h r List.mem_cons_self).hi
    rw [chars_cons]
    simp only [List.length_append, List.length_replicate, List.length_cons]
    (first | lia | omega)
theorem split13 {a : Int} (h : 1 ≤ a) (h' : a ≤ 3) : a = 1 ∨ a = 2 ∨ a = 3 := by (first | lia | omega)
noncomputable def CharJ (ca ra : Addr) (T0 : Led) (rows : List Row) (r : List Value) (m : Str → Option Value) (nx : Led) : Prop :=
  ∃ (done left : List Row) (k : Nat), rows = done ++ left ∧ RowItems T0 r left ∧ nx = (ca, listOf (charsV done).toArray k) :: T0 ∧ m (Str.ofString "my_rows") = some (.ref ra) ∧ m (Str.ofString "chars") = some (.ref ca)
section
variable {w : World} {p : Program} {loose : List Str} {mean : ExcName → Option Value} {mg mb : Str → Option Value} {h₀ : Heap} {L fa c1 c2 c3 c4 c5 c6 ra : Addr} {m : Str → Option Value} {s : Shared} {cd : Value} {Q : Flow → Shared → Prop} {sc : PySem.Scope} {b b2 : List Stmt} {T0 : Led} {n : Nat} {ys : List Value} {rows : List Row}
theorem st2 (hsc : sc = scopeAt w.params 543) (hb : b = lawRest w.params 2) (hb2 : b2 = lawRest w.params 4) (B : Below callerA h₀ [] h₀) (F : Fr h₀ L s.heap m) (X : (Mine.K0 w.params).In h₀) (T : Top p loose mean mg mb h₀)
    (N : News h₀ L s.heap T0) (hm : m (Str.ofString "my_rows") = some (.ref ra)) (hra : (ra, listOf ys.toArray n) ∈ T0) (hrows : RowItems T0 ys rows) (hlen : rows.length ≤ 6)
    (next : ∀ ca k h' tk m', Fr h₀ L h' m' → News h₀ L h' ((ca, listOf (charsV rows).toArray k) :: T0) → (∀ p ∈ T0, p.1 < ca) → m' (Str.ofString "my_rows") = some (.ref ra) → m' (Str.ofString "chars") = some (.ref ca) →
      wpAny (model PySem.Challenge.rw_np0087_01.row.prog w) (callerA.deeper (lawEnv sc L fa cd c1 c2 c3 c4 c5 c6)) (execs b2 (lawEnv sc L fa cd c1 c2 c3 c4 c5 c6)) Q (fun _ _ => False) { s with heap := h', toks := tk }) :
    wpAny (model PySem.Challenge.rw_np0087_01.row.prog w) (callerA.deeper (lawEnv sc L fa cd c1 c2 c3 c4 c5 c6)) (execs b (lawEnv sc L fa cd c1 c2 c3 c4 c5 c6)) Q (fun _ _ => False) s := by
  conv at hsc => rhs; whnf
  conv at hb => rhs; whnf
  conv at hb2 => rhs; whnf
  subst hsc hb hb2
  (first | refine fold_st ?_ | refine fold_sts ?_)
  intro en9 ak9
  have hAu9 : ak9.units = callerA.units + 3 := rfl
  have S9 : Site w ak9 _ _ h₀ L := Site.mk B X T rfl
  k_extra "mine steps"
  rename_i ca _ l1 _ _
  (try dsimp only)
  refine for_list (CharJ ca ra T0 rows) rfl (by k_asm) (by k_asm) (List.mem_cons_of_mem _ hra) rfl rfl ⟨[], rows, 0, rfl, hrows, rfl, by k_extra "mine look", by k_extra "mine look"⟩ ?_ ?_ (by rfl)
  · rintro I o v9 r m₁ nx h1 tk1 G9 g9 hI hne ⟨done, left, k, rfl, hri, rfl, hm1, hm2⟩ hx F' N'
    have hcI : @Ne Nat ca I := hne _ List.mem_cons_self
    cases hri with
    | cons hq ho hr =>
      rename_i vs l rw q t
      have hlo := ho.lo
      have hhi := ho.hi
      obtain ⟨many, pl, c⟩ := rw
      dsimp only at hq hlo hhi
      have hne9 : List.replicate many.toNat (Value.ref pl) ≠ [] := by
        intro e
        have := congrArg List.length e
        simp at this
        (first | lia | omega)
      have hz9 : (charsV done).length + (List.replicate many.toNat (Value.ref pl)).length ≤ 4000000 := by
        have h1 := chars_len (fun r hr => (hrows.ok r hr)) (l := done ++ ⟨many, pl, c⟩ :: l)
        have h2 := chars_app done (⟨many, pl, c⟩ :: l)
        have h3 := congrArg List.length h2
        rw [chars_cons] at h3
        simp only [List.length_append, List.length_replicate] at h1 h3 hlen ⊢
        (first | lia | omega)
      refine g9 ?_
      intro P9
      k_extra "mine steps"
      refine ForEnd.intro (nx' := (ca, listOf (charsV done ++ List.replicate many.toNat (Value.ref pl)).toArray (k + 1)) :: T0) (by k_asm) ?_ (ne_cons hcI fun p hp => hne p (List.mem_cons_of_mem _ hp)) ⟨List.mem_cons_of_mem _ hra, done ++ [⟨many, pl, c⟩], _, k + 1, by simp, hr, by simp [charsV], by k_extra "mine look", by k_extra "mine look"⟩
      (with_reducible rename News _ _ _ _ => N9)
      intro p hp
      exact N9 p (by simp only [List.mem_cons] at hp ⊢; grind only)
  · rintro m₁ nx h1 tk1 ⟨done, left, k, e, hri, rfl, hm1, hm2⟩ F' N'
    cases hri
    rw [List.append_nil] at e
    subst e
    exact next ca k h1 tk1 m₁ F' N' l1 hm1 hm2
end
end TK2

section TK3
open PySem PySem.W PyProof.Rows PySem.Calls PySem.Spec
set_option maxRecDepth 100000
set_option maxHeartbeats 8000000
/-- an object that is no part of a plist: a cell, or the deck -/
noncomputable def Odd (o : Obj) : Prop := (∃ v, o.data = .cell v) ∨ ∃ dl c t n, o = deckO dl c t n
theorem lnj67 : True := by
  (k_with "off j43" => skip)
  trivial
theorem odd_tup {vs : List Value} (h : Odd (tupObj vs)) : False := by
  rcases h with ⟨v, h⟩ | ⟨dl, c, t, n, h⟩
  · cases h
  · have := congrArg Obj.cls h
    simp at this
theorem PVal.cut {T T' : Led} {v : Value} {x : PV} (h : PVal T v x) (s : ∀ p ∈ T, p ∈ T' ∨ Odd p.2) : PVal T' v x := by
  cases h with
  | none => exact .none
  | int i t => exact .int i t
  | true => exact .true
  | sym q t1 t2 hq => exact .sym q t1 t2 ((s _ hq).resolve_right fun h => odd_tup h)
theorem PlItems.cut {T T' : Led} {vs : List Value} {l : List (Int × PV)} (h : PlItems T vs l) (s : ∀ p ∈ T, p ∈ T' ∨ Odd p.2) : PlItems T' vs l := by
  induction h with
  | nil => exact .nil
  | cons q k t v x hm hv _ ih => exact .cons q k t v x ((s _ hm).resolve_right fun h => odd_tup h) (hv.cut s) ih
theorem IsPl.cut {T T' : Led} {pl : Addr} {l : List (Int × PV)} (h : IsPl T pl l) (s : ∀ p ∈ T, p ∈ T' ∨ Odd p.2) : IsPl T' pl l := by
  obtain ⟨vs, n, hm, hi⟩ := h
  refine ⟨vs, n, (s _ hm).resolve_right fun h => ?_, hi.cut s⟩
  rcases h with ⟨v, h⟩ | ⟨dl, c, t, n', h⟩
  · cases h
  · have e := congrArg Obj.data h
    simp only [W.listOf, Data.seq.injEq] at e
    obtain ⟨e, _⟩ := e
    have e2 := congrArg Array.toList e
    simp only at e2
    subst e2
    cases hi with
    | cons q k t v x a b r => cases r
theorem IoOk.cut {T T' : Led} {l : Ioc} (h : IoOk T l) (s : ∀ p ∈ T, p ∈ T' ∨ Odd p.2) : IoOk T' l := fun p hp => ⟨(h p hp).1.cut s, (h p hp).2⟩
/-- one statement of the law -/
noncomputable def lawSt (P : PySem.Params) (k : Nat) : Stmt := match lawRest P k with
  | st :: _ => st
  | [] => .Pass default
section
variable {w : World} {p : Program} {loose : List Str} {mean : ExcName → Option Value} {mg mb : Str → Option Value} {h₀ : Heap} {L fa c1 c2 c3 c4 c5 c6 ra : Addr} {m : Str → Option Value} {s : Shared} {cd : Value} {Q : Flow → Shared → Prop} {sc : PySem.Scope} {st : Stmt} {T0 : Led} {n : Nat} {ys : List Value} {rows : List Row}
noncomputable abbrev lispD (P : Params) (t s0 s1 s2 s3 : Tok) (pd : Addr) : Obj := dictOf [ent P "first" s0 (.int 100 t), ent P "nil" s1 .none, ent P "true" s2 (.bool true), ent P "plists" s3 (.ref pd)] 4
theorem lnj68 : True := by
  (k_with "call ref#" => ((fail_if_success k_extra "off j44"); (refine stop_any ?_)))
  trivial
theorem st3 {T1 : Led} (hT1 : ∀ p ∈ T0, p ∈ T1 ∨ Odd p.2) (hsc : sc = scopeAt w.params 543) (hst : st = lawSt w.params 4) (B : Below callerA h₀ [] h₀) (F : Fr h₀ L s.heap m) (X : (Mine.K0 w.params).In h₀) (T : Top p loose mean mg mb h₀)
    (N : News h₀ L s.heap T0) (hm : m (Str.ofString "my_rows") = some (.ref ra)) (hra : (ra, listOf ys.toArray n) ∈ T0) (hrows : RowItems T0 ys rows) (hlen : rows.length ≤ 6) (hlen1 : 1 ≤ rows.length)
    (next : ∀ z props ioc pd o lisp ld t s0 s1 s2 s3 h' tk m', Fr h₀ L h' m' → News h₀ L h' ((pd, o) :: (z ++ T0)) → Apart z T0 → (∀ p ∈ z ++ T0, p.1 ≠ pd) → Tx w.params (z ++ T1) props ioc → tots ioc = sumR rows → expI ioc = expR rows →
      (lisp, instObj 487 ld) ∈ z → (ld, lispD w.params t s0 s1 s2 s3 pd) ∈ z → o.IsDictOf (intKind PySem.Challenge.rw_np0087_01.row.prog w) [] → (pd == sysModules) = false → m' (Str.ofString "props") = some (.ref props) → m' (Str.ofString "lisp") = some (.ref lisp) → (∀ x, x ≠ Str.ofString "props" → x ≠ Str.ofString "lisp" → m' x = m x) → Q .next { s with heap := h', toks := tk }) :
    wpAny (model PySem.Challenge.rw_np0087_01.row.prog w) (callerA.deeper (lawEnv sc L fa cd c1 c2 c3 c4 c5 c6)) (exec st (lawEnv sc L fa cd c1 c2 c3 c4 c5 c6)) Q (fun _ _ => False) s := by
  conv at hsc => rhs; whnf
  conv at hst => rhs; whnf
  subst hsc hst
  (first | refine fold_st ?_ | refine fold_sts ?_)
  intro en9 ak9
  have hAu9 : ak9.units = callerA.units + 3 := rfl
  have S9 : Site w ak9 _ _ h₀ L := Site.mk B X T rfl
  k_extra "mine steps"
  refine' FnX.use (props_of_rows_ok ?hm ?hr ?hl) ?S ?F ?N ?hd ?hu ?_
  (case N => k_asm)
  (case hm => k_mem)
  (case hr => with_reducible assumption)
  (case hl => with_reducible assumption)
  (case S => exact Site.mk (by k_asm) (by k_asm) (by k_asm) (by first | exact rfl | with_reducible assumption))
  (case F => k_asm)
  (case hd => ktr_room)
  (case hu => ktr_units)
  rintro _ _ h8 tk8 F9 N9 ⟨pr9, dp9, tr9, dtr9, x9, S9, sg9, ioc9, rfl, rfl, hp9, hx9, hj9, hG9, hP9⟩
  (try dsimp only)
  (try k_sweep)
  k_extra "mine steps"
  refine' FnX.use lisp_ok ?S ?F ?N ?hd ?hu ?_
  (case N => k_asm)
  (case S => exact Site.mk (by k_asm) (by k_asm) (by k_asm) (by first | exact rfl | with_reducible assumption))
  (case F => k_asm)
  (case hd => ktr_room)
  (case hu => ktr_units)
  rintro _ _ h9 tk9 F9 N9 ⟨li9, ld9, pd9, o9, s09, s19, s29, s39, rfl, rfl, hd9, hs9, hn9, ha9, hb9, hc9⟩
  (try dsimp only)
  (try k_sweep)
  k_extra "mine steps"
  rename_i D' h1 l1 h2 h3 h4 F8 N8
  refine next ((li9, instObj 487 ld9) :: (ld9, lispD w.params tk8 s09 s19 s29 s39 pd9) :: (x9 ++ S9)) pr9 ioc9 pd9 o9 li9 ld9 _ _ _ _ _ _ _ _ F8 ?_ ?_ ?_ ?_ hP9.owns hP9.exp List.mem_cons_self (List.mem_cons_of_mem _ List.mem_cons_self) hd9 hs9 (by k_extra "mine look") (by k_extra "mine look") (fun x hx hy => by simp [hx, hy])
  · intro p hp
    refine N8 p ?_
    simp only [List.mem_cons, List.mem_append] at hp ⊢
    grind only
  · refine Apart.cons (fun q hq => Nat.ne_of_lt (hn9 _ (List.mem_cons_of_mem _ List.mem_cons_self) q (List.mem_append_left _ (List.mem_append_right _ hq)))) (Apart.cons (fun q hq => Nat.ne_of_lt (hn9 _ (List.mem_cons_of_mem _ (List.mem_cons_of_mem _ List.mem_cons_self)) q (List.mem_append_left _ (List.mem_append_right _ hq)))) (Apart.app hx9.apart ?_))
    intro p hp q hq e
    exact hj9 q (List.mem_append_right _ hq) (List.mem_map.mpr ⟨p, hp, e.symm⟩)
  · refine ne_cons ha9.symm (ne_cons hb9.symm ?_)
    intro p hp
    refine Nat.ne_of_lt (hn9 _ List.mem_cons_self p ?_)
    replace hp : p ∈ (x9 ++ S9) ++ T0 := hp
    simp only [List.mem_append] at hp ⊢
    grind only
  · have hne : ioc9 ≠ [] ∧ Tr sg9 (ioc9.map (·.1)) := by
      rcases hP9.tree with ⟨h, _⟩ | h
      · rw [h] at hlen1; simp at hlen1
      · exact h
    refine ⟨⟨S9, tr9, dtr9, dp9, sg9, hG9, ?_, hp9.mono ?_, hne.2⟩, (hP9.ok.cut hT1).mono fun p hp => List.mem_append_right _ hp, hP9.good, Nat.le_trans hP9.len hlen⟩
    · intro p hp
      exact List.mem_append_left _ (List.mem_cons_of_mem _ (List.mem_cons_of_mem _ (List.mem_append_right _ hp)))
    · intro p hp
      exact List.mem_append_left _ (List.mem_cons_of_mem _ (List.mem_cons_of_mem _ (List.mem_append_left _ hp)))
theorem st5 {D dl : Addr} {o1 o2 : Obj} {v0 : Option Value} {c : Int} {t : Tok} (hsc : sc = scopeAt w.params 543) (hst : st = lawSt w.params 5) (B : Below callerA h₀ [] h₀) (F : Fr h₀ L s.heap m) (X : (Mine.K0 w.params).In h₀) (T : Top p loose mean mg mb h₀)
    (N : News h₀ L s.heap ((D, deckO dl c t n) :: (c2, o2) :: T0)) (hi : IsInts T0 dl) (hc1 : (c1, o1) ∈ T0) (d1 : o1.data = .cell (some (.ref D))) (d2 : o2.data = .cell v0) (hD : ∀ p ∈ T0, p.1 ≠ D) (hD2 : ∀ p ∈ T0, p.1 ≠ c2) (ne : @Ne Nat c2 D) (h0 : 0 ≤ c) (h1 : c ≤ 4000)
    (next : ∀ o2' v y c' t' n' h' tk, Fr h₀ L h' m → News h₀ L h' ((D, deckO dl c' t' n') :: (c2, o2') :: T0) → o2'.data = .cell (some v) → PVal [] v y → y.isSym = false → c ≤ c' → c' ≤ c + 1 → Q .next { s with heap := h', toks := tk }) :
    wpAny (model PySem.Challenge.rw_np0087_01.row.prog w) (callerA.deeper (lawEnv sc L fa cd c1 c2 c3 c4 c5 c6)) (exec st (lawEnv sc L fa cd c1 c2 c3 c4 c5 c6)) Q (fun _ _ => False) s := by
  conv at hsc => rhs; whnf
  conv at hst => rhs; whnf
  subst hsc hst
  (first | refine fold_st ?_ | refine fold_sts ?_)
  intro en9 ak9
  have hAu9 : ak9.units = callerA.units + 3 := rfl
  have S9 : Site w ak9 _ _ h₀ L := Site.mk B X T rfl
  k_extra "mine steps"
  have hi2 : IsInts ((c2, o2) :: T0) dl := hi.mono fun p hp => List.mem_cons_of_mem _ hp
  have hDa : ∀ p ∈ (c2, o2) :: T0, p.1 ≠ D := ne_cons ne hD
  have ne' : @Ne Nat D c2 := ne.symm
  refine' FnD.use (law_value_ok hi2 hDa h0 (by (first | lia | omega))) ?S ?F ?N ?hd ?hu ?_
  (case N => k_asm)
  (case S => exact Site.mk (by k_asm) (by k_asm) (by k_asm) (by first | exact rfl | with_reducible assumption))
  (case F => k_asm)
  (case hd => ktr_room)
  (case hu => ktr_units)
  rintro r9 c9 t9 n9 _ h9 tk9 F9 hlo9 hhi9 N9 _ ⟨rfl, y9, hv9, hs9⟩
  (try simp only [List.nil_append] at N9)
  (try dsimp only)
  (try k_sweep)
  k_extra "mine steps"
  rename_i h8 o8 F8 N8 d8
  exact next _ _ _ _ _ _ _ _ F8 N8 d8 hv9 hs9 hlo9 hhi9
theorem st6 {pd hl ld lisp : Addr} {o o2 : Obj} {hv : Value} {t s0 s1 s2 s3 : Tok} (hsc : sc = scopeAt w.params 543) (hst : st = lawSt w.params 6) (B : Below callerA h₀ [] h₀) (F : Fr h₀ L s.heap m) (X : (Mine.K0 w.params).In h₀) (T : Top p loose mean mg mb h₀)
    (N : News h₀ L s.heap ((pd, o) :: T0)) (hc2 : (c2, o2) ∈ T0) (d2 : o2.data = .cell (some hv)) (hD : ∀ p ∈ T0, p.1 ≠ pd) (hm : m (Str.ofString "lisp") = some (.ref lisp)) (hli : (lisp, instObj 487 ld) ∈ T0) (hld : (ld, lispD w.params t s0 s1 s2 s3 pd) ∈ T0) (ho : o.IsDictOf (intKind PySem.Challenge.rw_np0087_01.row.prog w) []) (hsy : (pd == sysModules) = false)
    (next : ∀ ht hl o' b0 k h' tk, Fr h₀ L h' m → News h₀ L h' ((hl, listOf #[.ref ht] k) :: (ht, tupObj [.int 2 b0, hv]) :: (pd, o') :: T0) → o'.IsDictOf (intKind PySem.Challenge.rw_np0087_01.row.prog w) [(7, .ref hl)] → (∀ p ∈ T0, p.1 < ht) → @LT.lt Nat _ ht hl → Q .next { s with heap := h', toks := tk }) :
    wpAny (model PySem.Challenge.rw_np0087_01.row.prog w) (callerA.deeper (lawEnv sc L fa cd c1 c2 c3 c4 c5 c6)) (exec st (lawEnv sc L fa cd c1 c2 c3 c4 c5 c6)) Q (fun _ _ => False) s := by
  conv at hsc => rhs; whnf
  conv at hst => rhs; whnf
  subst hsc hst
  (first | refine fold_st ?_ | refine fold_sts ?_)
  intro en9 ak9
  have hAu9 : ak9.units = callerA.units + 3 := rfl
  have S9 : Site w ak9 _ _ h₀ L := Site.mk B X T rfl
  k_extra "mine steps"
  rename_i D1 g1 l1 l' g2 F1 N1 l2 g3 o8 F8 N8 hd8
  exact next _ _ _ _ _ _ _ F8 N8 hd8 (allLt_lt l1.2) l2.1
theorem st7 {pd ld lisp : Addr} {t s0 s1 s2 s3 : Tok} (hsc : sc = scopeAt w.params 543) (hst : st = lawSt w.params 7) (B : Below callerA h₀ [] h₀) (F : Fr h₀ L s.heap m) (X : (Mine.K0 w.params).In h₀) (T : Top p loose mean mg mb h₀)
    (N : News h₀ L s.heap T0) (hm : m (Str.ofString "lisp") = some (.ref lisp)) (hli : (lisp, instObj 487 ld) ∈ T0) (hld : (ld, lispD w.params t s0 s1 s2 s3 pd) ∈ T0)
    (next : ∀ x rl h' tk m', Fr h₀ L h' m' → News h₀ L h' (x ++ T0) → Newer x T0 → RulesAt w.params x rl lisp → m' (Str.ofString "rules") = some (.ref rl) → (∀ y, y ≠ Str.ofString "rules" → m' y = m y) → Q .next { s with heap := h', toks := tk }) :
    wpAny (model PySem.Challenge.rw_np0087_01.row.prog w) (callerA.deeper (lawEnv sc L fa cd c1 c2 c3 c4 c5 c6)) (exec st (lawEnv sc L fa cd c1 c2 c3 c4 c5 c6)) Q (fun _ _ => False) s := by
  conv at hsc => rhs; whnf
  conv at hst => rhs; whnf
  subst hsc hst
  (first | refine fold_st ?_ | refine fold_sts ?_)
  intro en9 ak9
  have hAu9 : ak9.units = callerA.units + 3 := rfl
  have S9 : Site w ak9 _ _ h₀ L := Site.mk B X T rfl
  k_extra "mine steps"
  refine' FnX.use (rules_ok hli hld) ?S ?F ?N ?hd ?hu ?_
  (case N => k_asm)
  (case S => exact Site.mk (by k_asm) (by k_asm) (by k_asm) (by first | exact rfl | with_reducible assumption))
  (case F => k_asm)
  (case hd => ktr_room)
  (case hu => ktr_units)
  rintro _ _ h9 tk9 F9 N9 ⟨x9, rl9, rfl, rfl, hn9, hr9⟩
  (try dsimp only)
  (try k_sweep)
  k_extra "mine steps"
  rename_i h8 F8 N8
  exact next _ _ _ _ _ F8 N8 hn9 hr9 (by k_extra "mine look") (fun y hy => by simp [hy])
end
end TK3

section TT1
open PySem PySem.W PyProof.Rows PySem.Calls PySem.Spec
set_option maxRecDepth 100000
set_option maxHeartbeats 8000000
theorem lnj69 : True := by
  (k_with "off j44" => skip)
  (k_with "CompSrc#" => ((fail_if_success k_extra "off j45"); (k_here; k_dflt (first | (refine' compSrc_list ?k0_q ?k1_q ?k2_q ?k3_q ?k4_q ?_; (case k0_q => rfl); (case k1_q => k_asm); (case k2_q => k_asm); (case k3_q => k_mem); (case k4_q => (simp only [List.size_toArray]; omega)); intro g9) | (refine' compSrc_range ?k0_q ?k1_q ?k2_q ?k3_q ?k4_q ?k5_q ?_; (case k0_q => rfl); (case k1_q => k_asm); (case k2_q => k_asm); (case k3_q => with_reducible assumption); (case k4_q => omega); (case k5_q => omega); intro g9)))))
  (k_with "mine all" => ((fail_if_success k_extra "off j45"); first | with_reducible assumption | (refine ne_cons (by first | with_reducible assumption | grind only) ?_; k_all) | (refine ne_app (by with_reducible assumption) ?_; k_all)))
  trivial
theorem app_ne {D : Addr} {x l : Led} (h : ∀ p ∈ x ++ l, p.1 ≠ D) : (∀ p ∈ x, p.1 ≠ D) ∧ ∀ p ∈ l, p.1 ≠ D := ⟨fun p hp => h p (List.mem_append_left _ hp), fun p hp => h p (List.mem_append_right _ hp)⟩
/-- the list of characters -/
structure CharsAt (T : Led) (cv : List Value) (chs : List Pl) : Prop where
  len : cv.length = chs.length
  at' : ∀ (i : Nat) (c : Pl), chs[i]? = some c → ∃ pl, cv[i]? = some (.ref pl) ∧ IsPl T pl c ∧ WfPl c ∧ Canon c ∧ c.length ≤ 3
theorem CharsAt.mono {T T' : Led} {cv : List Value} {chs : List Pl} (h : CharsAt T cv chs) (s : ∀ p ∈ T, p ∈ T') : CharsAt T' cv chs := ⟨h.len, fun i c hc => by
  obtain ⟨pl, a, b, c⟩ := h.at' i c hc
  exact ⟨pl, a, b.mono s, c⟩⟩
noncomputable def ItemsAt {α : Type} (El : Led → Addr → α → Prop) (T : Led) (vs : List Value) (l : List α) : Prop := vs.length = l.length ∧ ∀ (i : Nat) (a : α), l[i]? = some a → ∃ q, vs[i]? = some (.ref q) ∧ El T q a
theorem ItemsAt.nil {α : Type} {El : Led → Addr → α → Prop} {T : Led} : ItemsAt El T [] [] := ⟨rfl, fun i a h => by simp at h⟩
theorem ItemsAt.mono {α : Type} [DecidableEq α] {prog : Program} {w : World} {El : Led → Addr → α → Prop} (C : Cmp prog w El) {T T' : Led} {vs : List Value} {l : List α} (h : ItemsAt El T vs l) (s : ∀ p ∈ T, p ∈ T') : ItemsAt El T' vs l :=
  ⟨h.1, fun i a hi => by obtain ⟨q, e, hq⟩ := h.2 i a hi; exact ⟨q, e, C.mono hq s⟩⟩
theorem ItemsAt.snoc {α : Type} {El : Led → Addr → α → Prop} {T : Led} {vs : List Value} {l : List α} (h : ItemsAt El T vs l) {q : Addr} {a : α} (hq : El T q a) : ItemsAt El T (vs ++ [.ref q]) (l ++ [a]) := by
  refine ⟨by simp [h.1], fun i b hb => ?_⟩
  rcases Nat.lt_or_ge i l.length with hi | hi
  · rw [List.getElem?_append_left hi] at hb
    obtain ⟨q', e, hq'⟩ := h.2 i b hb
    exact ⟨q', by rw [List.getElem?_append_left (by rw [h.1]; exact hi)]; exact e, hq'⟩
  · rw [List.getElem?_append_right hi] at hb
    have hil : i - l.length = 0 := by
      rcases Nat.eq_zero_or_pos (i - l.length) with h | h
      · exact h
      · rw [List.getElem?_eq_none (by simp; omega)] at hb; cases hb
    rw [hil] at hb
    cases hb
    exact ⟨q, by rw [List.getElem?_append_right (by rw [h.1]; exact hi), h.1, hil]; rfl, hq⟩
theorem take_snoc {α : Type} {l : List α} {i : Nat} {a : α} (h : l[i]? = some a) : l.take (i + 1) = l.take i ++ [a] := by rw [List.take_add_one, h]; rfl
noncomputable def LooksJ (T4 : Led) (f : Pl → PV) (chs : List Pl) (i : Nat) (ys : List Value) (nx : Led) : Prop := ∃ x, nx = x ++ T4 ∧ Apart x T4 ∧ ItemsAt LookAt x ys ((chs.take i).map f)
noncomputable def WholeJ (prog : Program) (w : World) (T0 T5 : Led) (chs : List Pl) (i : Nat) (ys : List Value) (nx : Led) : Prop := ∃ x, nx = x ++ T5 ∧ Apart x T5 ∧ ItemsAt (DictAt prog w) (x ++ T0) ys (chs.take i)
section
variable {w : World} {p : Program} {loose : List Str} {mean : ExcName → Option Value} {mg mb : Str → Option Value} {h₀ : Heap} {L fa c1 c2 c3 c4 c5 c6 : Addr} {m : Str → Option Value} {s : Shared} {cd : Value} {Q : Flow → Shared → Prop} {sc : PySem.Scope} {st : Stmt} {T0 : Led} {n : Nat}
theorem lnj70 : True := by
  (k_with "mine cut3" => ((fail_if_success k_extra "off j45"); repeat (first | exact Cut3.base | apply Cut3.cons | apply Cut3.app)))
  (k_with "mine off3" => ((fail_if_success k_extra "off j45"); repeat (first | with_reducible assumption | refine Off3.cons' (by grind only) (by grind only) (by grind only) ?_)))
  (k_with "CompEnd#" => ((fail_if_success k_extra "off j45"); (refine stop_any ?_)))
  (k_with "call ref#" => ((fail_if_success k_extra "off j45"); (refine stop_any ?_)))
  trivial
theorem t1 {ca : Addr} {o2 o3 o4 : Obj} {v0 : Option Value} {number : Int} {tn : Tok} {cv : List Value} {k : Nat} {hv : Value} {held : PV} (hsc : sc = scopeAt w.params 543) (hst : st = turnSt w.params 1) (B : Below callerA h₀ [] h₀) (F : Fr h₀ L s.heap m) (X : (Mine.K0 w.params).In h₀) (T : Top p loose mean mg mb h₀)
    (N : News h₀ L s.heap ((c4, o4) :: T0)) (hc2 : (c2, o2) ∈ T0) (d2 : o2.data = .cell (some hv)) (hc3 : (c3, o3) ∈ T0) (d3 : o3.data = .cell (some (.int number tn))) (d4 : o4.data = .cell v0) (hD : ∀ p ∈ T0, p.1 ≠ c4)
    (hm : m (Str.ofString "chars") = some (.ref ca)) (hca : (ca, listOf cv.toArray k) ∈ T0) (hcz : cv.length ≤ 100) {chs : List Pl} (hch : CharsAt T0 cv chs) (hn9 : number ≠ 100) (hhv : PVal [] hv held) (hhs : held.isSym = false)
    (next : ∀ x ll wl o4' h' tk m', Fr h₀ L h' m' → News h₀ L h' ((c4, o4') :: (x ++ T0)) → Apart x T0 → (∀ p ∈ x, p.1 ≠ c4) → o4'.data = .cell (some (.ref ll)) → ListAt LookAt x ll (chs.map fun c => valIn c number held) → ListAt (DictAt PySem.Challenge.rw_np0087_01.row.prog w) (x ++ T0) wl chs → m' (Str.ofString "my_whole") = some (.ref wl) → (∀ y, y ≠ Str.ofString "my_whole" → m' y = m y) → Q .next { s with heap := h', toks := tk }) :
    wpAny (model PySem.Challenge.rw_np0087_01.row.prog w) (callerA.deeper (lawEnv sc L fa cd c1 c2 c3 c4 c5 c6)) (exec st (lawEnv sc L fa cd c1 c2 c3 c4 c5 c6)) Q (fun _ _ => False) s := by
  conv at hsc => rhs; whnf
  conv at hst => rhs; whnf
  subst hsc hst
  (first | refine fold_st ?_ | refine fold_sts ?_)
  intro en9 ak9
  have hAu9 : ak9.units = callerA.units + 3 := rfl
  have S9 : Site w ak9 _ _ h₀ L := Site.mk B X T rfl
  obtain ⟨T4, hT4⟩ : ∃ T4, T4 = (c4, o4) :: T0 := ⟨_, rfl⟩
  have up4 : ∀ p ∈ T0, p ∈ T4 := fun p hp => hT4 ▸ List.mem_cons_of_mem _ hp
  have hca4 := up4 _ hca
  have hc24 := up4 _ hc2
  have hc34 := up4 _ hc3
  have hch4 := hch.mono up4
  have hchl : cv.toArray.size = chs.length := by simpa using hch.len
  rw [← hT4] at N
  k_extra "mine steps"
  (try dsimp only)
  refine compU_by (LooksJ T4 (fun c => valIn c number held) chs) ⟨[], rfl, Apart.nil, ItemsAt.nil⟩ ?_ ?_
  · rintro ys nx ⟨x, rfl, hxa, hit⟩
    rw [hchl, List.take_length] at hit
    k_extra "mine steps"
    rename_i Dy h5 tk5 F5 N5 o5
    obtain ⟨T5, hT5⟩ : ∃ T5, T5 = (Dy, LCg.lst ys) :: (x ++ T4) := ⟨_, rfl⟩
    have up5 : ∀ p ∈ T4, p ∈ T5 := fun p hp => hT5 ▸ List.mem_cons_of_mem _ (List.mem_append_right _ hp)
    rw [← hT5]
    (try dsimp only)
    refine compU_by (WholeJ PySem.Challenge.rw_np0087_01.row.prog w T0 T5 chs) ⟨[], rfl, Apart.nil, ItemsAt.nil⟩ ?_ ?_
    · rintro ys2 nx ⟨x2, rfl, hxa2, hit2⟩
      rw [hchl, List.take_length] at hit2
      intro Dw h6 tk6 F6 N6 o6
      subst hT5 hT4
      obtain ⟨xx, hxx⟩ : ∃ xx, xx = (Dw, LCg.lst ys2) :: (x2 ++ (Dy, LCg.lst ys) :: x) := ⟨_, rfl⟩
      have mm : ∀ {P : Addr × Obj → Prop}, P (Dw, LCg.lst ys2) → P (Dy, LCg.lst ys) → (∀ p ∈ x2, P p) → (∀ p ∈ x, P p) → ∀ p ∈ xx, P p := fun a b c d p hp => by
        rw [hxx] at hp
        rcases List.mem_cons.mp hp with rfl | hp
        · exact a
        · rcases List.mem_append.mp hp with hp | hp
          · exact c p hp
          · rcases List.mem_cons.mp hp with rfl | hp
            · exact b
            · exact d p hp
      have N7 : News h₀ L h6 ((c4, o4) :: (xx ++ T0)) := fun p hp => N6 p (by rw [hxx] at hp; simp only [List.mem_cons, List.mem_append] at hp ⊢; grind only)
      have q5 := off1_ne o5
      have q6 := off1_ne o6
      have ap : ∀ q ∈ (c4, o4) :: T0, ∀ p ∈ xx, q.1 ≠ p.1 := fun q hq => mm (q6 q (List.mem_append_right _ (List.mem_cons_of_mem _ (List.mem_append_right _ hq)))) (q5 q (List.mem_append_right _ hq)) (fun p hp => hxa2 p hp q (List.mem_cons_of_mem _ (List.mem_append_right _ hq))) (fun p hp => hxa p hp q hq)
      have hx4 : ∀ p ∈ xx, p.1 ≠ c4 := fun p hp => (ap (c4, o4) List.mem_cons_self p hp).symm
      have hL : ListAt LookAt xx Dy (chs.map fun c => valIn c number held) := ⟨ys, ys.length, by rw [hxx]; exact List.mem_cons_of_mem _ (List.mem_append_right _ List.mem_cons_self), hit.1, (hit.mono (cmp_look PySem.Challenge.rw_np0087_01.row.prog w) fun p hp => by rw [hxx]; simp [hp]).2⟩
      have hW : ListAt (DictAt PySem.Challenge.rw_np0087_01.row.prog w) (xx ++ T0) Dw chs := ⟨ys2, ys2.length, List.mem_append_left _ (by rw [hxx]; exact List.mem_cons_self), hit2.1, (hit2.mono (cmp_dict PySem.Challenge.rw_np0087_01.row.prog w) fun p hp => (List.mem_append.mp hp).elim (fun h => List.mem_append_left _ (by rw [hxx]; simp [h])) fun h => List.mem_append_right _ h).2⟩
      clear N6 N5 N F F5 mm q5 q6
      k_extra "mine steps"
      exact next xx Dy Dw _ _ _ _ (by k_asm) (by k_extra "mine news") (fun p hp q hq => ap q (List.mem_cons_of_mem _ hq) p hp) hx4 (by with_reducible assumption) hL hW (by k_extra "mine look") (fun y hy => by simp [hy])
    · rintro i v ys2 nx I oI C oC Dl m₂ h tk E' hi9 hv9 ⟨x2, rfl, hxa2, hit2⟩ hC hx F' N' off ne
      obtain ⟨c, hc⟩ : ∃ c, chs[i]? = some c := ⟨_, List.getElem?_eq_getElem (by have := hch.len; simp at hi9; omega)⟩
      obtain ⟨pl, hpl, hp, hwf, hcan, hlen3⟩ := hch.at' i c hc
      obtain rfl : v = .ref pl := by simp [hpl] at hv9; exact hv9.symm
      have hs9 : ∀ p ∈ T0, p ∈ (I, oI) :: (C, oC) :: (Dl, LCg.lst ys2) :: (x2 ++ T5) := fun p hp => List.mem_cons_of_mem _ (List.mem_cons_of_mem _ (List.mem_cons_of_mem _ (List.mem_append_right _ (up5 p (up4 p hp)))))
      k_sweep
      k_extra "mine steps"
      refine' FnX.use (law_all_in hp hs9 hwf hlen3 hcan) ?S ?F ?N ?hd ?hu ?_
      (case N => k_asm)
      (case S => exact Site.mk (by k_asm) (by k_asm) (by k_asm) (by first | exact rfl | with_reducible assumption))
      (case F => k_asm)
      (case hd => ktr_room)
      (case hu => ktr_units)
      rintro _ _ h9 tk9 F9 N9 ⟨z, rfl, hza, hall⟩
      (try dsimp only)
      (try k_sweep)
      k_extra "mine steps"
      refine compEnd_cut F9 N9 (Cut3.app .base) (Off3.app (hza.sub fun p hp => hp) List.mem_cons_self (List.mem_cons_of_mem _ List.mem_cons_self) (List.mem_cons_of_mem _ (List.mem_cons_of_mem _ List.mem_cons_self)) off) (.inr ⟨_, List.mem_append_right _ (List.mem_append_right _ (up5 _ hca4)), rfl, _, rfl⟩) ?_
      obtain ⟨Dz, oz, rz, rfl, hall⟩ := hall
      refine ⟨z ++ x2, by simp, Apart.app (hza.sub fun p hp => List.mem_cons_of_mem _ (List.mem_cons_of_mem _ (List.mem_cons_of_mem _ (List.mem_append_right _ hp)))) hxa2, ?_⟩
      rw [take_snoc hc]
      refine (hit2.mono (cmp_dict PySem.Challenge.rw_np0087_01.row.prog w) fun p hp => by simp only [List.mem_append] at hp ⊢; grind only).snoc ⟨IsAll.mono ⟨Dz, oz, rz, rfl, hall⟩ fun p hp => by simp only [List.mem_append] at hp ⊢; grind only, hcan⟩
  · rintro i v ys nx I oI C oC Dl m₂ h tk E' hi9 hv9 ⟨x, rfl, hxa, hit⟩ hC hx F' N' off ne
    obtain ⟨c, hc⟩ : ∃ c, chs[i]? = some c := ⟨_, List.getElem?_eq_getElem (by have := hch.len; simp at hi9; omega)⟩
    obtain ⟨pl, hpl, hp, hwf, hcan, hlen3⟩ := hch4.at' i c hc
    obtain rfl : v = .ref pl := by simp [hpl] at hv9; exact hv9.symm
    have hp2 : IsPl ((I, oI) :: (C, oC) :: (Dl, LCg.lst ys) :: (x ++ T4)) pl c := hp.mono fun p hp => List.mem_cons_of_mem _ (List.mem_cons_of_mem _ (List.mem_cons_of_mem _ (List.mem_append_right _ hp)))
    k_sweep
    k_extra "mine steps"
    refine' FnX.use (law_one_ok hp2 hwf hn9 hhv) ?S ?F ?N ?hd ?hu ?_
    (case N => k_asm)
    (case S => exact Site.mk (by k_asm) (by k_asm) (by k_asm) (by first | exact rfl | with_reducible assumption))
    (case F => k_asm)
    (case hd => ktr_room)
    (case hu => ktr_units)
    rintro _ _ h9 tk9 F9 N9 ⟨q, u, rfl, rfl, hlt, hpv⟩
    (try dsimp only)
    (try k_sweep)
    k_extra "mine steps"
    have hpv2 := hpv.plain (valIn_sym hwf hn9 hhs)
    refine compEnd_cut F9 N9 (Cut3.cons .base) (Off3.cons' (Nat.ne_of_gt hlt.1) (Nat.ne_of_gt hlt.2.1) (Nat.ne_of_gt hlt.2.2.1) off) (.inr ⟨_, List.mem_cons_of_mem _ (List.mem_append_right _ hca4), rfl, _, rfl⟩) ?_
    refine ⟨(q, _) :: x, rfl, Apart.cons (fun r hr => allLt_ne' hlt r (List.mem_cons_of_mem _ (List.mem_cons_of_mem _ (List.mem_cons_of_mem _ (List.mem_append_right _ hr))))) hxa, ?_⟩
    rw [take_snoc hc, List.map_append]
    exact (hit.mono (cmp_look PySem.Challenge.rw_np0087_01.row.prog w) fun p hp => List.mem_cons_of_mem _ hp).snoc ⟨u, List.mem_cons_self, hpv2.any⟩
end
end TT1

section TT2
open PySem PySem.W PyProof.Rows PySem.Calls PySem.Spec
set_option maxRecDepth 100000
set_option maxHeartbeats 8000000
section
variable {w : World} {p : Program} {loose : List Str} {mean : ExcName → Option Value} {mg mb : Str → Option Value} {h₀ : Heap} {L fa c1 c2 c3 c4 c5 c6 : Addr} {m : Str → Option Value} {s : Shared} {cd : Value} {Q : Flow → Shared → Prop} {sc : PySem.Scope} {st : Stmt} {T0 : Led} {n k ln : Nat}
  {ca wl ll : Addr} {o4 : Obj} {cv : List Value} {chs : List Pl} {looks : List PV} {at_ limit : Int} {ta tl : Tok}
theorem lnj71 : True := by
  (k_with "off j45" => skip)
  (k_with "mine lst" => ((fail_if_success k_extra "off j46"); first | with_reducible assumption | exact ListAt.mono (cmp_dict _ _) (by with_reducible assumption) (by k_extra "mine sub") | exact ListAt.mono (cmp_look _ _) (by with_reducible assumption) (by k_extra "mine sub")))
  (k_with "call ref#" => ((fail_if_success k_extra "off j46"); (k_here; (with_reducible show wpAny _ _ (call (Value.ref 531) _ _) _ _ _); k_dflt (refine' FnR.use (law_next_ok (cmp_dict _ _) ?hL_q ?h0_q ?h1_q ?h2_q ?h3_q ?hz_q) ?S_q ?F_q ?N_q ?hd_q ?hu_q ?_; (case N_q => k_asm); (case hL_q => k_extra "mine lst"); (case h0_q => (first | lia | omega)); (case h1_q => (first | lia | omega)); (case h2_q => (first | lia | omega)); (case h3_q => (first | lia | omega)); (case hz_q => (first | lia | omega)); (case S_q => first | with_reducible assumption | exact Site.mk (by k_asm) (by k_asm) (by k_asm) (by first | exact rfl | with_reducible assumption)); (case F_q => k_asm); (case hd_q => first | exact room (by with_reducible assumption) rfl | ktr_room); (case hu_q => first | exact unitsL (by with_reducible assumption) rfl | ktr_units); intro r9 h9 tk9 F9 N9 post9; (try dsimp only); (try k_sweep)))))
  (k_with "call ref#" => ((fail_if_success k_extra "off j46"); (k_here; (with_reducible show wpAny _ _ (call (Value.ref 531) _ _) _ _ _); k_dflt (refine' FnR.use (law_next_ok (cmp_look _ _) ?hL_q ?h0_q ?h1_q ?h2_q ?h3_q ?hz_q) ?S_q ?F_q ?N_q ?hd_q ?hu_q ?_; (case N_q => k_asm); (case hL_q => k_extra "mine lst"); (case h0_q => (first | lia | omega)); (case h1_q => (first | lia | omega)); (case h2_q => (first | lia | omega)); (case h3_q => (first | lia | omega)); (case hz_q => (first | lia | omega)); (case S_q => first | with_reducible assumption | exact Site.mk (by k_asm) (by k_asm) (by k_asm) (by first | exact rfl | with_reducible assumption)); (case F_q => k_asm); (case hd_q => first | exact room (by with_reducible assumption) rfl | ktr_room); (case hu_q => first | exact unitsL (by with_reducible assumption) rfl | ktr_units); intro r9 h9 tk9 F9 N9 post9; (try dsimp only); (try k_sweep)))))
  (k_with "call ref#" => ((fail_if_success k_extra "off j46"); (k_here; (with_reducible show wpAny _ _ (call (Value.ref 538) _ _) _ _ _); k_dflt (refine' FnR.use (law_last_ok (cmp_dict _ _) ?hL_q ?h0_q ?h1_q ?hz_q) ?S_q ?F_q ?N_q ?hd_q ?hu_q ?_; (case N_q => k_asm); (case hL_q => k_extra "mine lst"); (case h0_q => (first | lia | omega)); (case h1_q => (first | lia | omega)); (case hz_q => (first | lia | omega)); (case S_q => first | with_reducible assumption | exact Site.mk (by k_asm) (by k_asm) (by k_asm) (by first | exact rfl | with_reducible assumption)); (case F_q => k_asm); (case hd_q => first | exact room (by with_reducible assumption) rfl | ktr_room); (case hu_q => first | exact unitsL (by with_reducible assumption) rfl | ktr_units); intro r9 h9 tk9 F9 N9 post9; (try dsimp only); (try k_sweep)))))
  (k_with "call ref#" => ((fail_if_success k_extra "off j46"); (k_here; (with_reducible show wpAny _ _ (call (Value.ref 538) _ _) _ _ _); k_dflt (refine' FnR.use (law_last_ok (cmp_look _ _) ?hL_q ?h0_q ?h1_q ?hz_q) ?S_q ?F_q ?N_q ?hd_q ?hu_q ?_; (case N_q => k_asm); (case hL_q => k_extra "mine lst"); (case h0_q => (first | lia | omega)); (case h1_q => (first | lia | omega)); (case hz_q => (first | lia | omega)); (case S_q => first | with_reducible assumption | exact Site.mk (by k_asm) (by k_asm) (by k_asm) (by first | exact rfl | with_reducible assumption)); (case F_q => k_asm); (case hd_q => first | exact room (by with_reducible assumption) rfl | ktr_room); (case hu_q => first | exact unitsL (by with_reducible assumption) rfl | ktr_units); intro r9 h9 tk9 F9 N9 post9; (try dsimp only); (try k_sweep)))))
  trivial
theorem t2 (hsc : sc = scopeAt w.params 543) (hst : st = turnSt w.params 2) (B : Below callerA h₀ [] h₀) (F : Fr h₀ L s.heap m) (X : (Mine.K0 w.params).In h₀) (T : Top p loose mean mg mb h₀)
    (N : News h₀ L s.heap T0) (hm : m (Str.ofString "chars") = some (.ref ca)) (hca : (ca, listOf cv.toArray k) ∈ T0) (hcl : cv.length = ln) (hcz : ln ≤ 100)
    (hm2 : m (Str.ofString "my_whole") = some (.ref wl)) (hw : ListAt (DictAt PySem.Challenge.rw_np0087_01.row.prog w) T0 wl chs) (hc4 : (c4, o4) ∈ T0) (d4 : o4.data = .cell (some (.ref ll))) (hl : ListAt LookAt T0 ll looks)
    (hm3 : m (Str.ofString "at") = some (.int at_ ta)) (hm4 : m (Str.ofString "limit") = some (.int limit tl)) (hz1 : chs.length = ln) (hz2 : looks.length = ln) (h0 : 0 ≤ at_) (h1 : at_ ≤ ln) (h2 : 0 ≤ limit) (h3 : limit ≤ 200)
    (next : ∀ da v1 v2 n h' tk m', Fr h₀ L h' m' → News h₀ L h' ((da, listOf #[v1, v2] n) :: T0) → optI (nxG chs at_ limit) v1 → optI (nxG looks at_ limit) v2 → m' (Str.ofString "due") = some (.ref da) → (∀ x, x ≠ Str.ofString "due" → m' x = m x) → Q .next { s with heap := h', toks := tk }) :
    wpAny (model PySem.Challenge.rw_np0087_01.row.prog w) (callerA.deeper (lawEnv sc L fa cd c1 c2 c3 c4 c5 c6)) (exec st (lawEnv sc L fa cd c1 c2 c3 c4 c5 c6)) Q (fun _ _ => False) s := by
  conv at hsc => rhs; whnf
  conv at hst => rhs; whnf
  subst hsc hst
  (first | refine fold_st ?_ | refine fold_sts ?_)
  intro en9 ak9
  have hAu9 : ak9.units = callerA.units + 3 := rfl
  have S9 : Site w ak9 _ _ h₀ L := Site.mk B X T rfl
  k_extra "mine steps"
  · refine next _ _ _ _ _ _ _ (by k_asm) (by k_extra "mine news") ?_ ?_ (by k_extra "mine look") (fun x hx => by simp [hx])
    all_goals first | (rw [nxG, if_pos (by (first | lia | omega))]; assumption) | (rw [nxG, if_pos (by first | assumption | (first | lia | omega))]; assumption)
  · refine next _ _ _ _ _ _ _ (by k_asm) (by k_extra "mine news") ?_ ?_ (by k_extra "mine look") (fun x hx => by simp [hx])
    all_goals (rw [nxG, if_neg (by (first | lia | omega))]; rfl)
theorem t3 {da : Addr} {v1 v2 : Value} {nd : Nat} (hsc : sc = scopeAt w.params 543) (hst : st = turnSt w.params 3) (B : Below callerA h₀ [] h₀) (F : Fr h₀ L s.heap m) (X : (Mine.K0 w.params).In h₀) (T : Top p loose mean mg mb h₀)
    (N : News h₀ L s.heap T0)
    (hm2 : m (Str.ofString "my_whole") = some (.ref wl)) (hw : ListAt (DictAt PySem.Challenge.rw_np0087_01.row.prog w) T0 wl chs) (hc4 : (c4, o4) ∈ T0) (d4 : o4.data = .cell (some (.ref ll))) (hl : ListAt LookAt T0 ll looks)
    (hm5 : m (Str.ofString "due") = some (.ref da)) (hda : (da, listOf #[v1, v2] nd) ∈ T0)
    (hm3 : m (Str.ofString "at") = some (.int at_ ta)) (hm4 : m (Str.ofString "limit") = some (.int limit tl)) (hz1 : chs.length = ln) (hz2 : looks.length = ln) (hcz : ln ≤ 100) (h0 : 0 ≤ at_) (h1 : at_ ≤ ln)
    (next : ∀ da v3 v4 n h' tk m', Fr h₀ L h' m' → News h₀ L h' ((da, listOf #[v1, v2, v3, v4] n) :: T0) → optI (laG chs at_ limit) v3 → optI (laG looks at_ limit) v4 → m' (Str.ofString "due") = some (.ref da) → (∀ x, x ≠ Str.ofString "due" → m' x = m x) → Q .next { s with heap := h', toks := tk }) :
    wpAny (model PySem.Challenge.rw_np0087_01.row.prog w) (callerA.deeper (lawEnv sc L fa cd c1 c2 c3 c4 c5 c6)) (exec st (lawEnv sc L fa cd c1 c2 c3 c4 c5 c6)) Q (fun _ _ => False) s := by
  conv at hsc => rhs; whnf
  conv at hst => rhs; whnf
  subst hsc hst
  (first | refine fold_st ?_ | refine fold_sts ?_)
  intro en9 ak9
  have hAu9 : ak9.units = callerA.units + 3 := rfl
  have S9 : Site w ak9 _ _ h₀ L := Site.mk B X T rfl
  k_extra "mine steps"
  · refine next _ _ _ _ _ _ _ (by k_asm) (by k_extra "mine news") ?_ ?_ (by k_extra "mine look") (fun x hx => by simp [hx])
    all_goals first | (rw [laG, if_pos (by (first | lia | omega))]; assumption) | (rw [laG, if_pos (by first | assumption | (first | lia | omega))]; assumption)
  · refine next _ _ _ _ _ _ _ (by k_asm) (by k_extra "mine news") ?_ ?_ (by k_extra "mine look") (fun x hx => by simp [hx])
    all_goals (rw [laG, if_neg (by (first | lia | omega))]; rfl)
end
end TT2

section TT4
open PySem PySem.W PyProof.Rows PySem.Calls PySem.Spec
set_option maxRecDepth 100000
set_option maxHeartbeats 8000000
/-- None or an int -/
inductive OptsAre : List Value → List (Option Int) → Prop
  | nil : OptsAre [] []
  | cons {v : Value} {vs : List Value} {o : Option Int} {os : List (Option Int)} : optI o v → OptsAre vs os → OptsAre (v :: vs) (o :: os)
noncomputable def optD : Option Int → PyData
  | none => .none
  | some i => .int i
theorem lnj72 : True := by
  (k_with "off j46" => skip)
  trivial
theorem optD_reads {h : Heap} {o : Option Int} {v : Value} (H : optI o v) : Reads h v (optD o) [] := by
  cases o with
  | none => rw [show v = .none from H]; exact .none
  | some i =>
    obtain ⟨t, rfl⟩ := H
    exact .int i t
theorem opts_reads {h : Heap} {os : List (Option Int)} {vs : List Value} (H : OptsAre vs os) : ReadsAll h vs (os.map optD) [] := by
  induction H with
  | nil => exact .nil
  | cons a _ ih => exact .cons (optD_reads a) ih
theorem opts_can : ∀ os : List (Option Int), PyData.canLayAll0 (os.map optD) = true
  | [] => rfl
  | o :: r => by cases o <;> simp [PyData.canLayAll0, PyData.canLay0, optD, opts_can r]
theorem opts_depth : ∀ os : List (Option Int), PyData.depthAll (os.map optD) = 0
  | [] => rfl
  | o :: r => by cases o <;> simp [PyData.depthAll, PyData.depth, optD, opts_depth r]
theorem opts_shaped (os : List (Option Int)) : SeqAt.shaped (.list (os.map optD)) = true := by
  simp [SeqAt.shaped, PyData.canLay0, PyData.depth, opts_can, opts_depth]
theorem opts_eqv : ∀ os : List (Option Int), PyData.eqvAll (os.map optD) (os.map optD) = true
  | [] => rfl
  | o :: r => by cases o <;> simp [PyData.eqv, PyData.eqvAll, optD, opts_eqv r]
theorem ne_opts {prog : Program} {w : World} {A : Around} {E : Value → Shared → Prop} {s : Shared} {h₀ : Heap} {L : Addr} {T : Led} {a b : Addr} {vs us : Array Value} {n n2 : Nat} {os : List (Option Int)} {Q : Value → Shared → Prop}
    (N : News h₀ L s.heap T) (ha : (a, listOf vs n) ∈ T) (hb : (b, listOf us n2) ∈ T) (x : OptsAre vs.toList os) (y : OptsAre us.toList os) (hu : A.units + 64 < cLine) (h : Q (.bool false) s) :
    wpAny (model prog w) A (compareOp .NotEq (.ref a) (.ref b)) Q E s :=
  ne_dataH (reads_list_at (N _ ha).1 rfl rfl (opts_reads x)) (reads_list_at (N _ hb).1 rfl rfl (opts_reads y)) (opts_shaped _) (opts_shaped _) hu (by rw [PyData.eqv, opts_eqv]; exact h)
section
variable {w : World} {p : Program} {loose : List Str} {mean : ExcName → Option Value} {mg mb : Str → Option Value} {h₀ : Heap} {L fa c1 c2 c3 c4 c5 c6 : Addr} {m : Str → Option Value} {s : Shared} {cd : Value} {Q : Flow → Shared → Prop} {sc : PySem.Scope} {st : Stmt} {T0 : Led} {n k ln : Nat}
  {props rules : Addr} {o3 : Obj} {chs : List Pl} {at_ limit number : Int} {ta tl tn : Tok} {held : PV}
theorem lnj73 : True := by
  (k_with "mine rules" => ((fail_if_success k_extra "off j47"); first | with_reducible assumption | exact HasRules.mono (by with_reducible assumption) (by k_extra "mine sub")))
  (k_with "mine props" => ((fail_if_success k_extra "off j47"); first | with_reducible assumption | exact HasProps.mono (by with_reducible assumption) (by k_extra "mine sub")))
  (k_with "getAttr ref#" => ((fail_if_success k_extra "off j47"); (k_here; (with_reducible show wpAny _ _ (getAttr (Value.ref _) (Str.ofString "tree") _) _ _ _); k_dflt (refine' get_tree ?k1_q ?k2_q ?k3_q ?k4_q ?_; (case k1_q => k_asm); (case k2_q => k_asm); (case k3_q => k_asm); (case k4_q => k_extra "mine props")))))
  (k_with "mine units" => ((fail_if_success k_extra "off j47"); (have hcL9 := cLine_is; (try simp only [units_under_make, units_in1, units_deeper, Around.mark_units, units_caller] at *); (try dsimp only [ktrTop] at *); omega)))
  (k_with "getMethod ref#" => ((fail_if_success k_extra "off j47"); (k_here; (with_reducible show wpAny _ _ (getMethod (Value.ref _) (Str.ofString "get") _) _ _ _); k_dflt (refine' kdg_method (knd := PySem.intKind _ _) ?k1_q ?k2_q ?k3_q ?_; (case k1_q => k_asm); (case k2_q => k_mem); (case k3_q => k_asm)))))
  (k_with "call builtin:dict.get#" => ((fail_if_success k_extra "off j47"); (k_here; (with_reducible show wpAny _ _ (call (Value.builtin "dict.get") [Value.ref _, Value.int _ _, _]) _ _ _); k_dflt (refine' kdg_get2 (knd := PySem.intKind _ _) ?k1_q ?k2_q ?k3_q ?k4_q (intKind_is _ _ _ _) (some _) ?k5_q ?_; (case k1_q => k_asm); (case k2_q => k_mem); (case k3_q => k_asm); (case k4_q => k_asm); (case k5_q => rfl); (try dsimp only [Option.getD])))))
  (k_with "mine text" => ((fail_if_success k_extra "off j47"); first | with_reducible assumption | exact TextAt.mono (by with_reducible assumption) (by k_extra "mine sub")))
  (k_with "call ref#" => ((fail_if_success k_extra "off j47"); (k_here; (with_reducible show wpAny _ _ (call (Value.ref 385) _ _) _ _ _); k_dflt (refine' FnR.use (next_change_all ?H_q ?h0_q) ?S_q ?F_q ?N_q ?hd_q ?hu_q ?_; (case N_q => k_asm); (case H_q => k_extra "mine text"); (case h0_q => omega); (case S_q => first | with_reducible assumption | exact Site.mk (by k_asm) (by k_asm) (by k_asm) (by first | exact rfl | with_reducible assumption)); (case F_q => k_asm); (case hd_q => first | exact room (by with_reducible assumption) rfl | ktr_room); (case hu_q => first | exact unitsL (by with_reducible assumption) rfl | ktr_units); intro r9 h9 tk9 F9 N9 post9; (try dsimp only); (try k_sweep)))))
  (k_with "call ref#" => ((fail_if_success k_extra "off j47"); (k_here; (with_reducible show wpAny _ _ (call (Value.ref 392) _ _) _ _ _); k_dflt (refine' FnR.use (next_single_all ?HR_q ?hk9_q ?H_q ?h0_q) ?S_q ?F_q ?N_q ?hd_q ?hu_q ?_; (case N_q => k_asm); (case HR_q => k_extra "mine rules"); (case hk9_q => first | with_reducible assumption | omega); (case H_q => k_extra "mine text"); (case h0_q => omega); (case S_q => first | with_reducible assumption | exact Site.mk (by k_asm) (by k_asm) (by k_asm) (by first | exact rfl | with_reducible assumption)); (case F_q => k_asm); (case hd_q => first | exact room (by with_reducible assumption) rfl | ktr_room); (case hu_q => first | exact unitsL (by with_reducible assumption) rfl | ktr_units); intro r9 h9 tk9 F9 N9 post9; (try dsimp only); (try k_sweep)))))
  (k_with "call ref#" => ((fail_if_success k_extra "off j47"); (k_here; (with_reducible show wpAny _ _ (call (Value.ref 399) _ _) _ _ _); k_dflt (refine' FnR.use (previous_change_all ?H_q ?h1_q) ?S_q ?F_q ?N_q ?hd_q ?hu_q ?_; (case N_q => k_asm); (case H_q => k_extra "mine text"); (case h1_q => omega); (case S_q => first | with_reducible assumption | exact Site.mk (by k_asm) (by k_asm) (by k_asm) (by first | exact rfl | with_reducible assumption)); (case F_q => k_asm); (case hd_q => first | exact room (by with_reducible assumption) rfl | ktr_room); (case hu_q => first | exact unitsL (by with_reducible assumption) rfl | ktr_units); intro r9 h9 tk9 F9 N9 post9; (try dsimp only); (try k_sweep)))))
  (k_with "call ref#" => ((fail_if_success k_extra "off j47"); (k_here; (with_reducible show wpAny _ _ (call (Value.ref 406) _ _) _ _ _); k_dflt (refine' FnR.use (previous_single_all ?HR_q ?hk9_q ?H_q ?h1_q) ?S_q ?F_q ?N_q ?hd_q ?hu_q ?_; (case N_q => k_asm); (case HR_q => k_extra "mine rules"); (case hk9_q => first | with_reducible assumption | omega); (case H_q => k_extra "mine text"); (case h1_q => omega); (case S_q => first | with_reducible assumption | exact Site.mk (by k_asm) (by k_asm) (by k_asm) (by first | exact rfl | with_reducible assumption)); (case F_q => k_asm); (case hd_q => first | exact room (by with_reducible assumption) rfl | ktr_room); (case hu_q => first | exact unitsL (by with_reducible assumption) rfl | ktr_units); intro r9 h9 tk9 F9 N9 post9; (try dsimp only); (try k_sweep)))))
  trivial
theorem t4 (hsc : sc = scopeAt w.params 543) (hst : st = turnSt w.params 4) (B : Below callerA h₀ [] h₀) (F : Fr h₀ L s.heap m) (X : (Mine.K0 w.params).In h₀) (T : Top p loose mean mg mb h₀)
    (N : News h₀ L s.heap T0) (hm : m (Str.ofString "props") = some (.ref props)) (hm2 : m (Str.ofString "rules") = some (.ref rules)) (hm3 : m (Str.ofString "at") = some (.int at_ ta)) (hm4 : m (Str.ofString "limit") = some (.int limit tl))
    (hc3 : (c3, o3) ∈ T0) (d3 : o3.data = .cell (some (.int number tn))) (H : TextAt w.params T0 props chs) (HR : HasRules w.params T0 rules held) (hk9 : number ≠ 100) (h0 : 0 ≤ at_)
    (next : ∀ ma v1 v2 n h' tk m', Fr h₀ L h' m' → News h₀ L h' ((ma, listOf #[v1, v2] n) :: T0) → optI (nxG chs at_ limit) v1 → optI (nxG (chs.map fun c => valIn c number held) at_ limit) v2 → m' (Str.ofString "my_told") = some (.ref ma) → (∀ x, x ≠ Str.ofString "my_told" → m' x = m x) → Q .next { s with heap := h', toks := tk }) :
    wpAny (model PySem.Challenge.rw_np0087_01.row.prog w) (callerA.deeper (lawEnv sc L fa cd c1 c2 c3 c4 c5 c6)) (exec st (lawEnv sc L fa cd c1 c2 c3 c4 c5 c6)) Q (fun _ _ => False) s := by
  conv at hsc => rhs; whnf
  conv at hst => rhs; whnf
  subst hsc hst
  (first | refine fold_st ?_ | refine fold_sts ?_)
  intro en9 ak9
  have hAu9 : ak9.units = callerA.units + 3 := rfl
  have S9 : Site w ak9 _ _ h₀ L := Site.mk B X T rfl
  k_extra "mine steps"
  refine next _ _ _ _ _ _ _ (by k_asm) (by k_extra "mine news") (by with_reducible assumption) (by with_reducible assumption) (by k_extra "mine look") (fun x hx => by simp [hx])
theorem t5 {ma : Addr} {v1 v2 : Value} {nd : Nat} (hsc : sc = scopeAt w.params 543) (hst : st = turnSt w.params 5) (B : Below callerA h₀ [] h₀) (F : Fr h₀ L s.heap m) (X : (Mine.K0 w.params).In h₀) (T : Top p loose mean mg mb h₀)
    (N : News h₀ L s.heap T0) (hm : m (Str.ofString "props") = some (.ref props)) (hm2 : m (Str.ofString "rules") = some (.ref rules)) (hm3 : m (Str.ofString "at") = some (.int at_ ta)) (hm4 : m (Str.ofString "limit") = some (.int limit tl))
    (hm5 : m (Str.ofString "my_told") = some (.ref ma)) (hma : (ma, listOf #[v1, v2] nd) ∈ T0)
    (hc3 : (c3, o3) ∈ T0) (d3 : o3.data = .cell (some (.int number tn))) (H : TextAt w.params T0 props chs) (HR : HasRules w.params T0 rules held) (hk9 : number ≠ 100) (h1 : at_ ≤ chs.length)
    (next : ∀ ma v3 v4 n h' tk m', Fr h₀ L h' m' → News h₀ L h' ((ma, listOf #[v1, v2, v3, v4] n) :: T0) → optI (laG chs at_ limit) v3 → optI (laG (chs.map fun c => valIn c number held) at_ limit) v4 → m' (Str.ofString "my_told") = some (.ref ma) → (∀ x, x ≠ Str.ofString "my_told" → m' x = m x) → Q .next { s with heap := h', toks := tk }) :
    wpAny (model PySem.Challenge.rw_np0087_01.row.prog w) (callerA.deeper (lawEnv sc L fa cd c1 c2 c3 c4 c5 c6)) (exec st (lawEnv sc L fa cd c1 c2 c3 c4 c5 c6)) Q (fun _ _ => False) s := by
  conv at hsc => rhs; whnf
  conv at hst => rhs; whnf
  subst hsc hst
  (first | refine fold_st ?_ | refine fold_sts ?_)
  intro en9 ak9
  have hAu9 : ak9.units = callerA.units + 3 := rfl
  have S9 : Site w ak9 _ _ h₀ L := Site.mk B X T rfl
  k_extra "mine steps"
  refine next _ _ _ _ _ _ _ (by k_asm) (by k_extra "mine news") (by with_reducible assumption) (by with_reducible assumption) (by k_extra "mine look") (fun x hx => by simp [hx])
theorem lnj74 : True := by
  (k_with "compareOp NotEq ref ref#" => ((fail_if_success k_extra "off j48"); (k_here; (with_reducible show wpAny _ _ (compareOp CmpOp.NotEq (Value.ref _) (Value.ref _)) _ _ _); k_dflt (refine' ne_opts ?N_q ?a_q ?b_q ?x_q ?y_q ?u_q ?_; (case N_q => k_asm); (case a_q => k_mem); (case b_q => k_mem); (case x_q => with_reducible assumption); (case y_q => with_reducible assumption); (case u_q => ktr_units)))))
  trivial
theorem t6 {ma da : Addr} {vs us : Array Value} {n1 n2 : Nat} {os : List (Option Int)} (hsc : sc = scopeAt w.params 543) (hst : st = turnSt w.params 6) (B : Below callerA h₀ [] h₀) (F : Fr h₀ L s.heap m) (X : (Mine.K0 w.params).In h₀) (T : Top p loose mean mg mb h₀)
    (N : News h₀ L s.heap T0) (hm : m (Str.ofString "my_told") = some (.ref ma)) (hm2 : m (Str.ofString "due") = some (.ref da)) (hma : (ma, listOf vs n1) ∈ T0) (hda : (da, listOf us n2) ∈ T0) (hv : OptsAre vs.toList os) (hu : OptsAre us.toList os)
    (next : ∀ h' tk, Fr h₀ L h' m → News h₀ L h' T0 → Q .next { s with heap := h', toks := tk }) :
    wpAny (model PySem.Challenge.rw_np0087_01.row.prog w) (callerA.deeper (lawEnv sc L fa cd c1 c2 c3 c4 c5 c6)) (exec st (lawEnv sc L fa cd c1 c2 c3 c4 c5 c6)) Q (fun _ _ => False) s := by
  conv at hsc => rhs; whnf
  conv at hst => rhs; whnf
  subst hsc hst
  (first | refine fold_st ?_ | refine fold_sts ?_)
  intro en9 ak9
  have hAu9 : ak9.units = callerA.units + 3 := rfl
  have S9 : Site w ak9 _ _ h₀ L := Site.mk B X T rfl
  k_extra "mine steps"
  exact next _ _ (by k_asm) (by k_asm)
end
end TT4

section TT7
open PySem PySem.W PyProof.Rows PySem.Calls PySem.Spec
set_option maxRecDepth 100000
set_option maxHeartbeats 8000000
section
variable {w : World} {p : Program} {loose : List Str} {mean : ExcName → Option Value} {mg mb : Str → Option Value} {h₀ : Heap} {L fa c1 c2 c3 c4 c5 c6 : Addr} {m : Str → Option Value} {s : Shared} {cd : Value} {Q : Flow → Shared → Prop} {sc : PySem.Scope} {st : Stmt} {T0 : Led} {n : Nat}
theorem lnj75 : True := by
  (k_with "off j48" => skip)
  (k_with "off j47" => skip)
  (k_with "call ref#" => ((fail_if_success k_extra "off j49"); (k_here; (with_reducible show wpAny _ _ (call (Value.ref 498) _ _) _ _ _); k_dflt ((refine' FnD.useI (law_draw_ok ?hi_q ?hD_q ?hc_q ?hc2_q ?hm_q ?hm2_q) ?S_q ?F_q ?N_q ?hd_q ?hu_q ?_; (case N_q => refine' News.cutD ?kN_q ?kC_q; (case kN_q => k_asm); (case kC_q => k_extra "mine cutD")); (case hi_q => first | with_reducible assumption | exact IsInts.mono (by with_reducible assumption) (by k_extra "mine sub")); (case hD_q => first | with_reducible assumption | k_all); (case hc_q => (first | lia | omega)); (case hc2_q => (first | lia | omega)); (case hm_q => first | decide | (first | lia | omega)); (case hm2_q => first | decide | (first | lia | omega))); (case S_q => first | with_reducible assumption | exact Site.mk (by k_asm) (by k_asm) (by k_asm) (by first | exact rfl | with_reducible assumption)); (case F_q => k_asm); (case hd_q => first | exact room (by with_reducible assumption) rfl | ktr_room); (case hu_q => first | exact unitsL (by with_reducible assumption) rfl | ktr_units); intro c9 t9 n9 h9 tk9 v9 tv9 F9 hlo9 hhi9 N9 hv0 hv1; (try k_sweep)))))
  (k_with "call ref#" => ((fail_if_success k_extra "off j49"); (k_here; (with_reducible show wpAny _ _ (call (Value.ref 505) _ _) _ _ _); k_dflt ((refine' FnD.useP (law_value_ok ?hi_q ?hD_q ?hc_q ?hc2_q) ?S_q ?F_q ?N_q ?hd_q ?hu_q ?_; (case N_q => refine' News.cutD ?kN_q ?kC_q; (case kN_q => k_asm); (case kC_q => k_extra "mine cutD")); (case hi_q => first | with_reducible assumption | exact IsInts.mono (by with_reducible assumption) (by k_extra "mine sub")); (case hD_q => first | with_reducible assumption | k_all); (case hc_q => (first | lia | omega)); (case hc2_q => (first | lia | omega))); (case S_q => first | with_reducible assumption | exact Site.mk (by k_asm) (by k_asm) (by k_asm) (by first | exact rfl | with_reducible assumption)); (case F_q => k_asm); (case hd_q => first | exact room (by with_reducible assumption) rfl | ktr_room); (case hu_q => first | exact unitsL (by with_reducible assumption) rfl | ktr_units); intro r9 c9 t9 n9 h9 tk9 y9 F9 hlo9 hhi9 N9 hy9 hs9; (try k_sweep)))))
  trivial
theorem t0 {D dl ca : Addr} {o1 o3 : Obj} {v0 : Option Value} {c : Int} {t : Tok} {cv : List Value} {k ln : Nat} (hsc : sc = scopeAt w.params 543) (hst : st = turnSt w.params 0) (B : Below callerA h₀ [] h₀) (F : Fr h₀ L s.heap m) (X : (Mine.K0 w.params).In h₀) (T : Top p loose mean mg mb h₀)
    (N : News h₀ L s.heap ((D, deckO dl c t n) :: (c3, o3) :: T0)) (hi : IsInts T0 dl) (hc1 : (c1, o1) ∈ T0) (d1 : o1.data = .cell (some (.ref D))) (d3 : o3.data = .cell v0) (hD : ∀ p ∈ T0, p.1 ≠ D) (hD3 : ∀ p ∈ T0, p.1 ≠ c3) (ne : @Ne Nat c3 D) (h0 : 0 ≤ c) (h1 : c ≤ 4000)
    (hm : m (Str.ofString "chars") = some (.ref ca)) (hca : (ca, listOf cv.toArray k) ∈ T0) (hcl : cv.length = ln) (hcz : ln ≤ 100)
    (next : ∀ (at_ : Int) ta number tn limit tl o3' c' t' n' h' tk m', Fr h₀ L h' m' → News h₀ L h' ((D, deckO dl c' t' n') :: (c3, o3') :: T0) → o3'.data = .cell (some (.int number tn)) → 0 ≤ at_ → at_ ≤ ln → 1 ≤ number → number ≤ 3 → 0 ≤ limit → limit ≤ 200 → c ≤ c' → c' ≤ c + 3 →
      m' (Str.ofString "at") = some (.int at_ ta) → m' (Str.ofString "limit") = some (.int limit tl) → (∀ x, x ≠ Str.ofString "at" → x ≠ Str.ofString "limit" → m' x = m x) → Q .next { s with heap := h', toks := tk }) :
    wpAny (model PySem.Challenge.rw_np0087_01.row.prog w) (callerA.deeper (lawEnv sc L fa cd c1 c2 c3 c4 c5 c6)) (exec st (lawEnv sc L fa cd c1 c2 c3 c4 c5 c6)) Q (fun _ _ => False) s := by
  conv at hsc => rhs; whnf
  conv at hst => rhs; whnf
  subst hsc hst
  (first | refine fold_st ?_ | refine fold_sts ?_)
  intro en9 ak9
  have hAu9 : ak9.units = callerA.units + 3 := rfl
  have S9 : Site w ak9 _ _ h₀ L := Site.mk B X T rfl
  have hi2 : IsInts ((c3, o3) :: T0) dl := hi.mono fun p hp => List.mem_cons_of_mem _ hp
  have hDa : ∀ p ∈ (c3, o3) :: T0, p.1 ≠ D := ne_cons ne hD
  have ne' : @Ne Nat D c3 := ne.symm
  k_extra "mine steps"
  rename_i cA tA nA hA tkA vA tvA hloA hhiA hA0 hA1 cB tB nB hB tkB vB tvB hloB hhiB hB0 hB1 tC D' h1 l1 h2 h3 h4 o' d' h5 F5 N5
  exact next vA tvA (1 + vB) _ v9 tv9 o' c9 _ _ _ _ _ F5 (fun p hp => N5 p (List.mem_cons_of_mem _ hp)) d' hA0 (by (first | lia | omega)) (by (first | lia | omega)) (by (first | lia | omega)) hv0 (by (first | lia | omega)) (by (first | lia | omega)) (by (first | lia | omega)) (by k_extra "mine look") (by k_extra "mine look") (fun x hx hy => by simp [hx, hy])
theorem t7 {D dl : Addr} {o1 o5 : Obj} {v0 : Option Value} {c : Int} {t : Tok} (hsc : sc = scopeAt w.params 543) (hst : st = turnSt w.params 7) (B : Below callerA h₀ [] h₀) (F : Fr h₀ L s.heap m) (X : (Mine.K0 w.params).In h₀) (T : Top p loose mean mg mb h₀)
    (N : News h₀ L s.heap ((D, deckO dl c t n) :: (c5, o5) :: T0)) (hi : IsInts T0 dl) (hc1 : (c1, o1) ∈ T0) (d1 : o1.data = .cell (some (.ref D))) (d5 : o5.data = .cell v0) (hD : ∀ p ∈ T0, p.1 ≠ D) (hD5 : ∀ p ∈ T0, p.1 ≠ c5) (ne : @Ne Nat c5 D) (h0 : 0 ≤ c) (h1 : c ≤ 4000)
    (next : ∀ o5' v y c' t' n' h' tk, Fr h₀ L h' m → News h₀ L h' ((D, deckO dl c' t' n') :: (c5, o5') :: T0) → o5'.data = .cell (some v) → PVal [] v y → y.isSym = false → c ≤ c' → c' ≤ c + 1 → Q .next { s with heap := h', toks := tk }) :
    wpAny (model PySem.Challenge.rw_np0087_01.row.prog w) (callerA.deeper (lawEnv sc L fa cd c1 c2 c3 c4 c5 c6)) (exec st (lawEnv sc L fa cd c1 c2 c3 c4 c5 c6)) Q (fun _ _ => False) s := by
  conv at hsc => rhs; whnf
  conv at hst => rhs; whnf
  subst hsc hst
  (first | refine fold_st ?_ | refine fold_sts ?_)
  intro en9 ak9
  have hAu9 : ak9.units = callerA.units + 3 := rfl
  have S9 : Site w ak9 _ _ h₀ L := Site.mk B X T rfl
  have hi2 : IsInts ((c5, o5) :: T0) dl := hi.mono fun p hp => List.mem_cons_of_mem _ hp
  have hDa : ∀ p ∈ (c5, o5) :: T0, p.1 ≠ D := ne_cons ne hD
  have ne' : @Ne Nat D c5 := ne.symm
  k_extra "mine steps"
  rename_i h8 o8 F8 N8 d8
  exact next _ _ _ _ _ _ _ _ F8 N8 d8 (by with_reducible assumption) (by with_reducible assumption) (by (first | lia | omega)) (by (first | lia | omega))
end
end TT7

section TT8
open PySem PySem.W PyProof.Rows PySem.Calls PySem.Spec
set_option maxRecDepth 100000
set_option maxHeartbeats 8000000
theorem lnj76 : True := by
  (k_with "off j49" => skip)
  trivial
theorem LookAt.up {T T' : Led} {q : Addr} {x : PV} (h : LookAt T q x) (s : ∀ p ∈ T, p ∈ T') : LookAt T' q x := by
  obtain ⟨u, hm, hp⟩ := h
  exact ⟨u, s _ hm, hp.mono s⟩
theorem ints_snoc {vs : List Value} {js : List Int} (h : IntsAre vs js) {j : Int} {t : Tok} : IntsAre (vs ++ [.int j t]) (js ++ [j]) := by
  induction h with
  | nil => exact .cons _ _ .nil
  | cons i u _ ih => exact .cons i u ih
theorem ints_kf {vs : List Value} {js : List Int} (h : IntsAre vs js) : kf_ints vs = true := by
  induction h with
  | nil => rfl
  | cons i u _ ih => exact ih
theorem ints_any {vs : List Value} {js : List Int} (h : IntsAre vs js) (k : Int) : vs.any (isInt k) = decide (k ∈ js) := by
  induction h with
  | nil => rfl
  | cons i u _ ih =>
    rw [List.any_cons, ih]
    by_cases e : k = i
    · subst e; simp [isInt]
    · simp [isInt, e, Ne.symm e]
noncomputable def WithJ (T0 : Led) (P : Nat → Bool) (a : Nat) (i : Nat) (ys : List Value) (nx : Led) : Prop := ∃ x, nx = x ++ T0 ∧ Apart x T0 ∧ IntsAre ys (placesF P a i)
section
variable {w : World} {p : Program} {loose : List Str} {mean : ExcName → Option Value} {mg mb : Str → Option Value} {h₀ : Heap} {L fa c1 c2 c3 c4 c5 c6 : Addr} {m : Str → Option Value} {s : Shared} {cd : Value} {Q : Flow → Shared → Prop} {sc : PySem.Scope} {st : Stmt} {T0 : Led} {n k ln : Nat}
  {ca ll : Addr} {o4 o5 o6 : Obj} {v0 : Option Value} {cv : List Value} {looks : List PV} {at_ : Int} {ta : Tok} {v : Value} {y : PV}
theorem lnj77 : True := by
  (k_with "mine rules" => ((fail_if_success k_extra "off j50"); first | with_reducible assumption | exact HasRules.mono (by with_reducible assumption) (by k_extra "mine sub")))
  (k_with "mine props" => ((fail_if_success k_extra "off j50"); first | with_reducible assumption | exact HasProps.mono (by with_reducible assumption) (by k_extra "mine sub")))
  (k_with "getAttr ref#" => ((fail_if_success k_extra "off j50"); (k_here; (with_reducible show wpAny _ _ (getAttr (Value.ref _) (Str.ofString "tree") _) _ _ _); k_dflt (refine' get_tree ?k1_q ?k2_q ?k3_q ?k4_q ?_; (case k1_q => k_asm); (case k2_q => k_asm); (case k3_q => k_asm); (case k4_q => k_extra "mine props")))))
  (k_with "mine units" => ((fail_if_success k_extra "off j50"); (have hcL9 := cLine_is; (try simp only [units_under_make, units_in1, units_deeper, Around.mark_units, units_caller] at *); (try dsimp only [ktrTop] at *); (first | lia | omega))))
  (k_with "getMethod ref#" => ((fail_if_success k_extra "off j50"); (k_here; (with_reducible show wpAny _ _ (getMethod (Value.ref _) (Str.ofString "get") _) _ _ _); k_dflt (refine' kdg_method (knd := PySem.intKind _ _) ?k1_q ?k2_q ?k3_q ?_; (case k1_q => k_asm); (case k2_q => k_mem); (case k3_q => k_asm)))))
  (k_with "call builtin:dict.get#" => ((fail_if_success k_extra "off j50"); (k_here; (with_reducible show wpAny _ _ (call (Value.builtin "dict.get") [Value.ref _, Value.int _ _, _]) _ _ _); k_dflt (refine' kdg_get2 (knd := PySem.intKind _ _) ?k1_q ?k2_q ?k3_q ?k4_q (intKind_is _ _ _ _) (some _) ?k5_q ?_; (case k1_q => k_asm); (case k2_q => k_mem); (case k3_q => k_asm); (case k4_q => k_asm); (case k5_q => rfl); (try dsimp only [Option.getD])))))
  (k_with "call builtin:isinstance#" => ((fail_if_success k_extra "off j50"); (k_here; (with_reducible show wpAny _ _ (call (Value.builtin "isinstance") [_, Value.type "bool"] _) _ _ _); k_dflt (refine' isi_bool ?k1_q ?k2_q ?_; (case k1_q => k_asm); (case k2_q => k_extra "mine pv")))))
  (k_with "CompSrcT#" => ((fail_if_success k_extra "off j50"); (refine stop_any ?_)))
  (k_with "CompEnd#" => ((fail_if_success k_extra "off j50"); (refine stop_any ?_)))
  (k_with "compareOp Eq ref ref#" => ((fail_if_success k_extra "off j50"); (k_here; (with_reducible show wpAny _ _ (compareOp CmpOp.Eq (Value.ref _) (Value.ref _)) _ _ _); k_dflt (refine' Cmp.eq' (cmp_look _ _) ?N_q ?x_q ?y_q ?u_q ?_; (case N_q => k_asm); (case x_q => exact LookAt.up (by with_reducible assumption) (by k_extra "mine sub")); (case y_q => exact ⟨_, by k_mem, PVal.any (by with_reducible assumption)⟩); (case u_q => ktr_units)))))
  (k_with "compareOp NotIn int ref#" => ((fail_if_success k_extra "off j50"); (k_here; k_dflt (refine' kf_notin ?N_q ?m_q ?i_q ?e_q ?_; (case N_q => k_asm); (case m_q => k_mem); (case i_q => exact ints_kf (by with_reducible assumption)); (case e_q => exact congrArg _ (ints_any (by with_reducible assumption) _))))))
  (k_with "mine all" => ((fail_if_success k_extra "off j50"); first | with_reducible assumption | (refine ne_cons (by first | with_reducible assumption | grind only) ?_; k_all) | (refine ne_app (by with_reducible assumption) ?_; k_all)))
  trivial
theorem t8 (hsc : sc = scopeAt w.params 543) (hst : st = turnSt w.params 8) (B : Below callerA h₀ [] h₀) (F : Fr h₀ L s.heap m) (X : (Mine.K0 w.params).In h₀) (T : Top p loose mean mg mb h₀)
    (N : News h₀ L s.heap ((c6, o6) :: T0)) (d6 : o6.data = .cell v0) (hD : ∀ p ∈ T0, p.1 ≠ c6) (hm : m (Str.ofString "chars") = some (.ref ca)) (hca : (ca, listOf cv.toArray k) ∈ T0) (hcl : cv.length = ln) (hcz : ln ≤ 100)
    (hc4 : (c4, o4) ∈ T0) (d4 : o4.data = .cell (some (.ref ll))) (hl : ListAt LookAt T0 ll looks) (hz2 : looks.length = ln) (hc5 : (c5, o5) ∈ T0) (d5 : o5.data = .cell (some v)) (hv : PVal [] v y)
    (hm3 : m (Str.ofString "at") = some (.int at_ ta)) (h0 : 0 ≤ at_) (h1 : at_ ≤ ln)
    (next : ∀ x o6' wa ys h' tk, Fr h₀ L h' m → News h₀ L h' ((c6, o6') :: (wa, LCg.lst ys) :: (x ++ T0)) → o6'.data = .cell (some (.ref wa)) → IntsAre ys (placesF (shows looks y) at_.toNat (ln - at_).toNat) → Q .next { s with heap := h', toks := tk }) :
    wpAny (model PySem.Challenge.rw_np0087_01.row.prog w) (callerA.deeper (lawEnv sc L fa cd c1 c2 c3 c4 c5 c6)) (exec st (lawEnv sc L fa cd c1 c2 c3 c4 c5 c6)) Q (fun _ _ => False) s := by
  conv at hsc => rhs; whnf
  conv at hst => rhs; whnf
  subst hsc hst
  (first | refine fold_st ?_ | refine fold_sts ?_)
  intro en9 ak9
  have hAu9 : ak9.units = callerA.units + 3 := rfl
  have S9 : Site w ak9 _ _ h₀ L := Site.mk B X T rfl
  obtain ⟨vs, n8, hm8, hl8, hf8⟩ := hl
  k_extra "mine steps"
  refine compSrcT_range rfl (by k_asm) (by k_asm) (by with_reducible assumption) (by (first | lia | omega)) (by (first | lia | omega)) ?_
  intro g9
  (try dsimp only)
  (try dsimp only)
  refine compT_by (WithJ ((c6, o6) :: T0) (shows looks y) at_.toNat) ⟨[], rfl, Apart.nil, .nil⟩ ?_ ?_
  · rintro ys nx ⟨x, rfl, hx, hj⟩
    intro Dw h6 tk6 F6 N6 o6'
    have q6 := off1_ne o6'
    have N7 : News h₀ L h6 ((c6, o6) :: (Dw, LCg.lst ys) :: (x ++ T0)) := fun p hp => N6 p (by simp only [List.mem_cons, List.mem_append] at hp ⊢; grind only)
    have hw6 : @Ne Nat Dw c6 := (q6 (c6, o6) (List.mem_append_right _ List.mem_cons_self)).symm
    have hx6 : ∀ p ∈ x, p.1 ≠ c6 := fun p hp => (hx p hp (c6, o6) List.mem_cons_self).symm
    clear N6
    k_extra "mine steps"
    exact next x _ Dw ys _ _ (by k_asm) (by k_asm) (by with_reducible assumption) hj
  · rintro i v9 ys nx I oI C oC Dl m₂ h tk E' hi9 ⟨t8, hv9⟩ ⟨x, rfl, hxa, hj⟩ hC hx F9 N9 off ne
    subst hv9
    obtain ⟨b, hb⟩ : ∃ b, looks[(at_ + (i : Int)).toNat]? = some b := ⟨_, List.getElem?_eq_getElem (by (first | lia | omega))⟩
    obtain ⟨qb, hqb, hEb0⟩ := hf8 _ _ hb
    have hEb : LookAt ((c6, o6) :: T0) qb b := hEb0.up fun p hp => List.mem_cons_of_mem _ hp
    clear hEb0
    rw [show (at_ + (i : Int)).toNat = at_.toNat + i by (first | lia | omega)] at hb
    k_sweep
    by_cases hby : b = y
    · k_extra "mine steps"
      (with_reducible rename Fr _ _ _ _ => F8)
      (with_reducible rename News _ _ _ _ => N8)
      (with_reducible rename (_ ∧ _ ∧ _ ∧ AllLt _ _) => l8)
      refine compEnd_cut F8 N8 (Cut3.cons .base) (Off3.cons' (Nat.ne_of_gt l8.1) (Nat.ne_of_gt l8.2.1) (Nat.ne_of_gt l8.2.2.1) off) trivial ⟨(_, _) :: x, rfl, Apart.cons (fun q hq => allLt_ne' l8.2.2.2 q (List.mem_append_right _ hq)) hxa, ?_⟩
      rw [placesF, if_pos (by show decide (_ = _) = true; rw [hb, hby]; simp), show ((at_.toNat + i : Nat) : Int) = at_ + i by (first | lia | omega)]
      exact ints_snoc hj
    · k_extra "mine steps"
      (with_reducible rename Fr _ _ _ _ => F8)
      (with_reducible rename News _ _ _ _ => N8)
      (with_reducible rename (_ ∧ _ ∧ _ ∧ AllLt _ _) => l8)
      refine compEnd_cut F8 N8 (Cut3.cons .base) (Off3.cons' (Nat.ne_of_gt l8.1) (Nat.ne_of_gt l8.2.1) (Nat.ne_of_gt l8.2.2.1) off) trivial ⟨(_, _) :: x, rfl, Apart.cons (fun q hq => allLt_ne' l8.2.2.2 q (List.mem_append_right _ hq)) hxa, ?_⟩
      rw [placesF, if_neg (by show ¬ decide (_ = _) = true; rw [hb]; simpa using hby), List.append_nil]
      exact hj
theorem t9 {wa : Addr} {ws : List Value} {js : List Int} {nw : Nat} (hsc : sc = scopeAt w.params 543) (hst : st = turnSt w.params 9) (B : Below callerA h₀ [] h₀) (F : Fr h₀ L s.heap m) (X : (Mine.K0 w.params).In h₀) (T : Top p loose mean mg mb h₀)
    (N : News h₀ L s.heap T0) (hm : m (Str.ofString "chars") = some (.ref ca)) (hca : (ca, listOf cv.toArray k) ∈ T0) (hcl : cv.length = ln) (hcz : ln ≤ 100)
    (hc6 : (c6, o6) ∈ T0) (d6 : o6.data = .cell (some (.ref wa))) (hwa : (wa, LCg.lst ws) ∈ T0) (hw : IntsAre ws js)
    (hm3 : m (Str.ofString "at") = some (.int at_ ta)) (h0 : 0 ≤ at_) (h1 : at_ ≤ ln)
    (next : ∀ ma ys h' tk m', Fr h₀ L h' m' → News h₀ L h' ((ma, LCg.lst ys) :: T0) → IntsAre ys (placesF (fun j => !decide ((j : Int) ∈ js)) at_.toNat (ln - at_).toNat) → m' (Str.ofString "my_without") = some (.ref ma) → (∀ x, x ≠ Str.ofString "my_without" → m' x = m x) → Q .next { s with heap := h', toks := tk }) :
    wpAny (model PySem.Challenge.rw_np0087_01.row.prog w) (callerA.deeper (lawEnv sc L fa cd c1 c2 c3 c4 c5 c6)) (exec st (lawEnv sc L fa cd c1 c2 c3 c4 c5 c6)) Q (fun _ _ => False) s := by
  conv at hsc => rhs; whnf
  conv at hst => rhs; whnf
  subst hsc hst
  k_extra "mine steps"
  refine compSrcT_range rfl (by k_asm) (by k_asm) (by with_reducible assumption) (by (first | lia | omega)) (by (first | lia | omega)) ?_
  intro g9
  (try dsimp only)
  (try dsimp only)
  refine compT_by (WithJ T0 (fun j => !decide ((j : Int) ∈ js)) at_.toNat) ⟨[], rfl, Apart.nil, .nil⟩ ?_ ?_
  · rintro ys nx ⟨x, rfl, hx, hj⟩
    intro Dw h6 tk6 F6 N6 o6'
    exact next Dw ys _ _ _ F6 (fun p hp => N6 p (by simp only [List.mem_cons, List.mem_append] at hp ⊢; grind only)) hj (by k_extra "mine look") (fun y hy => by simp [hy])
  · rintro i v9 ys nx I oI C oC Dl m₂ h tk E' hi9 ⟨t8, hv9⟩ ⟨x, rfl, hxa, hj⟩ hC hx F9 N9 off ne
    subst hv9
    k_sweep
    k_extra "mine steps"
    · refine compEnd_cut F9 N9 .base off trivial ⟨x, rfl, hxa, ?_⟩
      rw [placesF, if_neg (by rw [show ((at_.toNat + i : Nat) : Int) = at_ + i by (first | lia | omega)]; simpa using by assumption), List.append_nil]
      exact hj
    · refine compEnd_cut F9 N9 .base off trivial ⟨x, rfl, hxa, ?_⟩
      rw [placesF, if_pos (by rw [show ((at_.toNat + i : Nat) : Int) = at_ + i by (first | lia | omega)]; simpa using by assumption), show ((at_.toNat + i : Nat) : Int) = at_ + i by (first | lia | omega)]
      exact ints_snoc hj
end
end TT8

section TT10
open PySem PySem.W PyProof.Rows PySem.Calls PySem.Spec
set_option maxRecDepth 100000
set_option maxHeartbeats 8000000
theorem lnj78 : True := by
  (k_with "off j50" => skip)
  trivial
theorem head_ints {ws : List Value} {js : List Int} (h : IntsAre ws js) : (js = [] ∧ optI js.head? .none) ∨ ∃ j t, js ≠ [] ∧ ws[(0 : Int).toNat]? = some (.int j t) ∧ optI js.head? (.int j t) := by
  cases h with
  | nil => exact .inl ⟨rfl, rfl⟩
  | cons i t r => exact .inr ⟨i, t, List.cons_ne_nil _ _, rfl, t, rfl⟩
section
variable {w : World} {p : Program} {loose : List Str} {mean : ExcName → Option Value} {mg mb : Str → Option Value} {h₀ : Heap} {L fa c1 c2 c3 c4 c5 c6 : Addr} {m : Str → Option Value} {s : Shared} {cd : Value} {Q : Flow → Shared → Prop} {sc : PySem.Scope} {st : Stmt} {T0 : Led} {n k : Nat}
  {props rules ca : Addr} {o3 o5 : Obj} {chs : List Pl} {at_ number : Int} {ta tn : Tok} {held y : PV} {v : Value} {cv : List Value}
theorem lnj79 : True := by
  (k_with "mine rules" => ((fail_if_success k_extra "off j51"); first | with_reducible assumption | exact HasRules.mono (by with_reducible assumption) (by k_extra "mine sub")))
  (k_with "mine props" => ((fail_if_success k_extra "off j51"); first | with_reducible assumption | exact HasProps.mono (by with_reducible assumption) (by k_extra "mine sub")))
  (k_with "getAttr ref#" => ((fail_if_success k_extra "off j51"); (k_here; (with_reducible show wpAny _ _ (getAttr (Value.ref _) (Str.ofString "tree") _) _ _ _); k_dflt (refine' get_tree ?k1_q ?k2_q ?k3_q ?k4_q ?_; (case k1_q => k_asm); (case k2_q => k_asm); (case k3_q => k_asm); (case k4_q => k_extra "mine props")))))
  (k_with "mine units" => ((fail_if_success k_extra "off j51"); (have hcL9 := cLine_is; (try simp only [units_under_make, units_in1, units_deeper, Around.mark_units, units_caller] at *); (try dsimp only [ktrTop] at *); (first | lia | omega))))
  (k_with "getMethod ref#" => ((fail_if_success k_extra "off j51"); (k_here; (with_reducible show wpAny _ _ (getMethod (Value.ref _) (Str.ofString "get") _) _ _ _); k_dflt (refine' kdg_method (knd := PySem.intKind _ _) ?k1_q ?k2_q ?k3_q ?_; (case k1_q => k_asm); (case k2_q => k_mem); (case k3_q => k_asm)))))
  (k_with "call builtin:dict.get#" => ((fail_if_success k_extra "off j51"); (k_here; (with_reducible show wpAny _ _ (call (Value.builtin "dict.get") [Value.ref _, Value.int _ _, _]) _ _ _); k_dflt (refine' kdg_get2 (knd := PySem.intKind _ _) ?k1_q ?k2_q ?k3_q ?k4_q (intKind_is _ _ _ _) (some _) ?k5_q ?_; (case k1_q => k_asm); (case k2_q => k_mem); (case k3_q => k_asm); (case k4_q => k_asm); (case k5_q => rfl); (try dsimp only [Option.getD])))))
  (k_with "mine text" => ((fail_if_success k_extra "off j51"); first | with_reducible assumption | exact TextAt.mono (by with_reducible assumption) (by k_extra "mine sub")))
  (k_with "mine all" => ((fail_if_success k_extra "off j51"); first | with_reducible assumption | (refine ne_cons (by first | with_reducible assumption | grind only) ?_; k_all) | (refine ne_app (by with_reducible assumption) ?_; k_all)))
  (k_with "call ref#" => ((fail_if_success k_extra "off j51"); (k_here; (with_reducible show wpAny _ _ (call (Value.ref 413) _ _) _ _ _); k_dflt (refine' FnR.use (first_with_all ?HR_q ?hk9_q ?hv_q ?hy_q ?H_q ?h0_q ?h1_q) ?S_q ?F_q ?N_q ?hd_q ?hu_q ?_; (case N_q => k_asm); (case HR_q => k_extra "mine rules"); (case hk9_q => first | with_reducible assumption | (first | lia | omega)); (case hv_q => with_reducible assumption); (case hy_q => with_reducible assumption); (case H_q => k_extra "mine text"); (case h0_q => (first | lia | omega)); (case h1_q => (first | lia | omega)); (case S_q => first | with_reducible assumption | exact Site.mk (by k_asm) (by k_asm) (by k_asm) (by first | exact rfl | with_reducible assumption)); (case F_q => k_asm); (case hd_q => first | exact room (by with_reducible assumption) rfl | ktr_room); (case hu_q => first | exact unitsL (by with_reducible assumption) rfl | ktr_units); intro r9 h9 tk9 F9 N9 post9; (try dsimp only); (try k_sweep)))))
  (k_with "call ref#" => ((fail_if_success k_extra "off j51"); (k_here; (with_reducible show wpAny _ _ (call (Value.ref 420) _ _) _ _ _); k_dflt (refine' FnR.use (first_without_all ?HR_q ?hk9_q ?hv_q ?hy_q ?H_q ?h0_q ?h1_q) ?S_q ?F_q ?N_q ?hd_q ?hu_q ?_; (case N_q => k_asm); (case HR_q => k_extra "mine rules"); (case hk9_q => first | with_reducible assumption | (first | lia | omega)); (case hv_q => with_reducible assumption); (case hy_q => with_reducible assumption); (case H_q => k_extra "mine text"); (case h0_q => (first | lia | omega)); (case h1_q => (first | lia | omega)); (case S_q => first | with_reducible assumption | exact Site.mk (by k_asm) (by k_asm) (by k_asm) (by first | exact rfl | with_reducible assumption)); (case F_q => k_asm); (case hd_q => first | exact room (by with_reducible assumption) rfl | ktr_room); (case hu_q => first | exact unitsL (by with_reducible assumption) rfl | ktr_units); intro r9 h9 tk9 F9 N9 post9; (try dsimp only); (try k_sweep)))))
  trivial
theorem t10 (hsc : sc = scopeAt w.params 543) (hst : st = turnSt w.params 10) (B : Below callerA h₀ [] h₀) (F : Fr h₀ L s.heap m) (X : (Mine.K0 w.params).In h₀) (T : Top p loose mean mg mb h₀)
    (N : News h₀ L s.heap T0) (hm : m (Str.ofString "props") = some (.ref props)) (hm2 : m (Str.ofString "rules") = some (.ref rules)) (hm3 : m (Str.ofString "at") = some (.int at_ ta)) (hm4 : m (Str.ofString "chars") = some (.ref ca)) (hca : (ca, listOf cv.toArray k) ∈ T0) (hcl : cv.length = chs.length) (hcz : chs.length ≤ 100)
    (hc3 : (c3, o3) ∈ T0) (d3 : o3.data = .cell (some (.int number tn))) (hc5 : (c5, o5) ∈ T0) (d5 : o5.data = .cell (some v)) (hv : PVal [] v y) (hy : y.isSym = false) (H : TextAt w.params T0 props chs) (HR : HasRules w.params T0 rules held) (hk9 : number ≠ 100) (h0 : 0 ≤ at_) (h1 : at_ ≤ chs.length)
    (next : ∀ ma v1 n h' tk m', Fr h₀ L h' m' → News h₀ L h' ((ma, listOf #[v1] n) :: T0) → (∀ p ∈ T0, p.1 ≠ ma) → optI (placesF (shows (chs.map fun c => valIn c number held) y) at_.toNat (chs.length - at_).toNat).head? v1 → m' (Str.ofString "my_told") = some (.ref ma) → (∀ x, x ≠ Str.ofString "my_told" → m' x = m x) → Q .next { s with heap := h', toks := tk }) :
    wpAny (model PySem.Challenge.rw_np0087_01.row.prog w) (callerA.deeper (lawEnv sc L fa cd c1 c2 c3 c4 c5 c6)) (exec st (lawEnv sc L fa cd c1 c2 c3 c4 c5 c6)) Q (fun _ _ => False) s := by
  conv at hsc => rhs; whnf
  conv at hst => rhs; whnf
  subst hsc hst
  (first | refine fold_st ?_ | refine fold_sts ?_)
  intro en9 ak9
  have hAu9 : ak9.units = callerA.units + 3 := rfl
  have S9 : Site w ak9 _ _ h₀ L := Site.mk B X T rfl
  k_extra "mine steps"
  exact next _ _ _ _ _ _ (by k_asm) (by k_asm) (lt_ne (by with_reducible assumption)) (by with_reducible assumption) (by k_extra "mine look") (fun x hx => by simp [hx])
theorem t11 {ma : Addr} {v1 : Value} {nd : Nat} (hsc : sc = scopeAt w.params 543) (hst : st = turnSt w.params 11) (B : Below callerA h₀ [] h₀) (F : Fr h₀ L s.heap m) (X : (Mine.K0 w.params).In h₀) (T : Top p loose mean mg mb h₀)
    (N : News h₀ L s.heap ((ma, listOf #[v1] nd) :: T0)) (hne : ∀ p ∈ T0, p.1 ≠ ma) (hm5 : m (Str.ofString "my_told") = some (.ref ma)) (hm : m (Str.ofString "props") = some (.ref props)) (hm2 : m (Str.ofString "rules") = some (.ref rules)) (hm3 : m (Str.ofString "at") = some (.int at_ ta)) (hm4 : m (Str.ofString "chars") = some (.ref ca)) (hca : (ca, listOf cv.toArray k) ∈ T0) (hcl : cv.length = chs.length) (hcz : chs.length ≤ 100)
    (hc3 : (c3, o3) ∈ T0) (d3 : o3.data = .cell (some (.int number tn))) (hc5 : (c5, o5) ∈ T0) (d5 : o5.data = .cell (some v)) (hv : PVal [] v y) (hy : y.isSym = false) (H : TextAt w.params T0 props chs) (HR : HasRules w.params T0 rules held) (hk9 : number ≠ 100) (h0 : 0 ≤ at_) (h1 : at_ ≤ chs.length)
    (next : ∀ v2 n h' tk, Fr h₀ L h' m → News h₀ L h' ((ma, listOf #[v1, v2] n) :: T0) → optI (placesF (fun j => !shows (chs.map fun c => valIn c number held) y j) at_.toNat (chs.length - at_).toNat).head? v2 → Q .next { s with heap := h', toks := tk }) :
    wpAny (model PySem.Challenge.rw_np0087_01.row.prog w) (callerA.deeper (lawEnv sc L fa cd c1 c2 c3 c4 c5 c6)) (exec st (lawEnv sc L fa cd c1 c2 c3 c4 c5 c6)) Q (fun _ _ => False) s := by
  conv at hsc => rhs; whnf
  conv at hst => rhs; whnf
  subst hsc hst
  (first | refine fold_st ?_ | refine fold_sts ?_)
  intro en9 ak9
  have hAu9 : ak9.units = callerA.units + 3 := rfl
  have S9 : Site w ak9 _ _ h₀ L := Site.mk B X T rfl
  k_extra "mine steps"
  (with_reducible rename News _ _ _ _ => N8)
  exact next _ _ _ _ (by k_asm) N8 (by with_reducible assumption)
theorem lnj80 : True := by
  (k_with "compareOp NotEq ref ref#" => ((fail_if_success k_extra "off j52"); (k_here; (with_reducible show wpAny _ _ (compareOp CmpOp.NotEq (Value.ref _) (Value.ref _)) _ _ _); k_dflt (first | (refine' ne_opts (os := [_, _]) ?N_q ?a_q ?b_q ?x_q ?y_q ?u_q ?_; (case N_q => k_asm); (case a_q => k_mem); (case b_q => k_mem); (case x_q => with_reducible assumption); (case y_q => exact .cons (by with_reducible assumption) (.cons (by with_reducible assumption) .nil)); (case u_q => ktr_units)) | (refine' ke_ne_ints ?a_q ?b_q ?x_q ?y_q ?u_q ?_; (case a_q => exact News.isList (by k_asm) (by k_mem)); (case b_q => exact News.isList (by k_asm) (by k_mem)); (case x_q => with_reducible assumption); (case y_q => exact .nil); (case u_q => ktr_units))))))
  trivial
theorem t12 {ma wa oa : Addr} {o6 : Obj} {vs : Array Value} {ws us : List Value} {n1 : Nat} {js is : List Int} (hsc : sc = scopeAt w.params 543) (hst : st = turnSt w.params 12) (B : Below callerA h₀ [] h₀) (F : Fr h₀ L s.heap m) (X : (Mine.K0 w.params).In h₀) (T : Top p loose mean mg mb h₀)
    (N : News h₀ L s.heap T0) (hm : m (Str.ofString "my_told") = some (.ref ma)) (hma : (ma, listOf vs n1) ∈ T0) (hv : OptsAre vs.toList [js.head?, is.head?]) (hc6 : (c6, o6) ∈ T0) (d6 : o6.data = .cell (some (.ref wa))) (hwa : (wa, listOf ws.toArray ws.length) ∈ T0) (hw : IntsAre ws js)
    (hm2 : m (Str.ofString "my_without") = some (.ref oa)) (hoa : (oa, listOf us.toArray us.length) ∈ T0) (hu : IntsAre us is)
    (next : ∀ h' tk, Fr h₀ L h' m → News h₀ L h' T0 → Q .next { s with heap := h', toks := tk }) :
    wpAny (model PySem.Challenge.rw_np0087_01.row.prog w) (callerA.deeper (lawEnv sc L fa cd c1 c2 c3 c4 c5 c6)) (exec st (lawEnv sc L fa cd c1 c2 c3 c4 c5 c6)) Q (fun _ _ => False) s := by
  conv at hsc => rhs; whnf
  conv at hst => rhs; whnf
  subst hsc hst
  (first | refine fold_st ?_ | refine fold_sts ?_)
  intro en9 ak9
  have hAu9 : ak9.units = callerA.units + 3 := rfl
  have S9 : Site w ak9 _ _ h₀ L := Site.mk B X T rfl
  have hA := head_ints hw
  have hB := head_ints hu
  rcases hA with ⟨hA, hA2⟩ | ⟨jA, tA, hA, hA1, hA2⟩ <;> rcases hB with ⟨hB, hB2⟩ | ⟨jB, tB, hB, hB1, hB2⟩
  all_goals (k_extra "mine steps"; exact next _ _ (by k_asm) (by k_extra "mine drop"))
end
end TT10

section TT13
open PySem PySem.W PyProof.Rows PySem.Calls PySem.Spec
set_option maxRecDepth 100000
set_option maxHeartbeats 8000000
theorem lnj81 : True := by
  (k_with "off j52" => skip)
  (k_with "off j51" => skip)
  trivial
theorem body13 (P : PySem.Params) : turnBody P = [turnSt P 0, turnSt P 1, turnSt P 2, turnSt P 3, turnSt P 4, turnSt P 5, turnSt P 6, turnSt P 7, turnSt P 8, turnSt P 9, turnSt P 10, turnSt P 11, turnSt P 12] := by
  have h : (turnBody P).length = 13 := by with_unfolding_all rfl
  unfold turnSt
  generalize turnBody P = l at h
  match l, h with
  | [_, _, _, _, _, _, _, _, _, _, _, _, _], _ => rfl
theorem places_congr {P R : Nat → Bool} {a : Nat} : ∀ {n : Nat}, (∀ j, a ≤ j → j < a + n → P j = R j) → placesF P a n = placesF R a n
  | 0, _ => rfl
  | n + 1, h => by rw [placesF, placesF, places_congr (n := n) fun j h1 h2 => h j h1 (by (first | lia | omega)), h (a + n) (by (first | lia | omega)) (by (first | lia | omega))]
/-- what the loop leaves as it is -/
structure Sta (w : World) (S : Led) (c1 c2 D dl ca props rules : Addr) (cv : List Value) (chs : List Pl) (hv : Value) (held : PV) : Prop where
  hi : IsInts S dl
  e1 : ∃ o1 : Obj, (c1, o1) ∈ S ∧ o1.data = .cell (some (.ref D))
  e2 : ∃ o2 : Obj, (c2, o2) ∈ S ∧ o2.data = .cell (some hv)
  hhv : PVal [] hv held
  hhs : held.isSym = false
  eca : ∃ k, (ca, listOf cv.toArray k) ∈ S
  hch : CharsAt S cv chs
  hlen : chs.length ≤ 100
  H : TextAt w.params S props chs
  HR : HasRules w.params S rules held
theorem Sta.mono {w : World} {S S' : Led} {c1 c2 D dl ca props rules : Addr} {cv : List Value} {chs : List Pl} {hv : Value} {held : PV} (h : Sta w S c1 c2 D dl ca props rules cv chs hv held) (s : ∀ p ∈ S, p ∈ S') : Sta w S' c1 c2 D dl ca props rules cv chs hv held where
  hi := h.hi.mono s
  e1 := let ⟨o, a, b⟩ := h.e1; ⟨o, s _ a, b⟩
  e2 := let ⟨o, a, b⟩ := h.e2; ⟨o, s _ a, b⟩
  hhv := h.hhv
  hhs := h.hhs
  eca := let ⟨k, a⟩ := h.eca; ⟨k, s _ a⟩
  hch := h.hch.mono s
  hlen := h.hlen
  H := h.H.mono s
  HR := h.HR.mono s
/-- the deck and the four cells lie apart -/
structure Far (S : Led) (D c3 c4 c5 c6 : Addr) : Prop where
  nD : ∀ p ∈ S, p.1 ≠ D
  n3 : ∀ p ∈ S, p.1 ≠ c3
  n4 : ∀ p ∈ S, p.1 ≠ c4
  n5 : ∀ p ∈ S, p.1 ≠ c5
  n6 : ∀ p ∈ S, p.1 ≠ c6
  d3 : @Ne Nat c3 D
  d4 : @Ne Nat c4 D
  d5 : @Ne Nat c5 D
  d6 : @Ne Nat c6 D
  e34 : @Ne Nat c3 c4
  e35 : @Ne Nat c3 c5
  e36 : @Ne Nat c3 c6
  e45 : @Ne Nat c4 c5
  e46 : @Ne Nat c4 c6
  e56 : @Ne Nat c5 c6
theorem up5 {a b c d e : Addr × Obj} {l : Led} : ∀ p ∈ l, p ∈ a :: b :: c :: d :: e :: l := fun p hp => List.mem_cons_of_mem _ (List.mem_cons_of_mem _ (List.mem_cons_of_mem _ (List.mem_cons_of_mem _ (List.mem_cons_of_mem _ hp))))
theorem su_cons {x : Addr × Obj} {l T : Led} (h : x ∈ T) (r : ∀ p ∈ l, p ∈ T) : ∀ p ∈ x :: l, p ∈ T := List.forall_mem_cons.mpr ⟨h, r⟩
theorem su_app {x l T : Led} (h : ∀ p ∈ x, p ∈ T) (r : ∀ p ∈ l, p ∈ T) : ∀ p ∈ x ++ l, p ∈ T := fun p hp => (List.mem_append.mp hp).elim (h p) (r p)
theorem up1 {a : Addr × Obj} {l : Led} : ∀ p ∈ l, p ∈ a :: l := fun _ hp => List.mem_cons_of_mem _ hp
theorem up2 {a b : Addr × Obj} {l : Led} : ∀ p ∈ l, p ∈ a :: b :: l := fun _ hp => List.mem_cons_of_mem _ (List.mem_cons_of_mem _ hp)
theorem up3 {a b c : Addr × Obj} {l : Led} : ∀ p ∈ l, p ∈ a :: b :: c :: l := fun _ hp => List.mem_cons_of_mem _ (up2 _ hp)
theorem up4 {a b c d : Addr × Obj} {l : Led} : ∀ p ∈ l, p ∈ a :: b :: c :: d :: l := fun _ hp => up2 _ (up2 _ hp)
section
variable {w : World} {p : Program} {loose : List Str} {mean : ExcName → Option Value} {mg mb : Str → Option Value} {h₀ : Heap} {L fa c1 c2 c3 c4 c5 c6 D dl ca props rules : Addr} {m : Str → Option Value} {s : Shared} {cd : Value} {Q : Flow → Shared → Prop} {sc : PySem.Scope} {b : List Stmt} {S : Led} {n : Nat}
  {o3 o4 o5 o6 : Obj} {v3 v4 v5 v6 : Option Value} {c : Int} {t : Tok} {cv : List Value} {chs : List Pl} {hv : Value} {held : PV}
theorem turn (hsc : sc = scopeAt w.params 543) (hb : b = turnBody w.params) (B : Below callerA h₀ [] h₀) (F : Fr h₀ L s.heap m) (X : (Mine.K0 w.params).In h₀) (T : Top p loose mean mg mb h₀)
    (N : News h₀ L s.heap ((D, deckO dl c t n) :: (c3, o3) :: (c4, o4) :: (c5, o5) :: (c6, o6) :: S)) (st : Sta w S c1 c2 D dl ca props rules cv chs hv held) (fr : Far S D c3 c4 c5 c6)
    (d3 : o3.data = .cell v3) (d4 : o4.data = .cell v4) (d5 : o5.data = .cell v5) (d6 : o6.data = .cell v6) (h0 : 0 ≤ c) (h1 : c ≤ 3900)
    (hm1 : m (Str.ofString "chars") = some (.ref ca)) (hm2 : m (Str.ofString "props") = some (.ref props)) (hm3 : m (Str.ofString "rules") = some (.ref rules))
    (next : ∀ c' t' n' o3' o4' o5' o6' v3 v4 v5 v6 h' tk m', Fr h₀ L h' m' → News h₀ L h' ((D, deckO dl c' t' n') :: (c3, o3') :: (c4, o4') :: (c5, o5') :: (c6, o6') :: S) → o3'.data = .cell v3 → o4'.data = .cell v4 → o5'.data = .cell v5 → o6'.data = .cell v6 → c ≤ c' → c' ≤ c + 4 →
      m' (Str.ofString "chars") = some (.ref ca) → m' (Str.ofString "props") = some (.ref props) → m' (Str.ofString "rules") = some (.ref rules) → Q .next { s with heap := h', toks := tk }) :
    wpAny (model PySem.Challenge.rw_np0087_01.row.prog w) (callerA.deeper (lawEnv sc L fa cd c1 c2 c3 c4 c5 c6)) (execs b (lawEnv sc L fa cd c1 c2 c3 c4 c5 c6)) Q (fun _ _ => False) s := by
  rw [hb, body13]
  obtain ⟨o1, q1, e1⟩ := st.e1
  obtain ⟨o2, q2, e2⟩ := st.e2
  obtain ⟨k, qca⟩ := st.eca
  have hcl := st.hch.len
  have hln := st.hlen
  -- the three draws
  have u0 : ∀ p ∈ S, p ∈ (c4, o4) :: (c5, o5) :: (c6, o6) :: S := up3
  refine wpAny_execs_cons (t0 (st := turnSt w.params 0) (ln := chs.length) hsc rfl B F X T N (st.hi.mono u0) (u0 _ q1) e1 d3 (ne_cons fr.d4 (ne_cons fr.d5 (ne_cons fr.d6 fr.nD))) (ne_cons fr.e34.symm (ne_cons fr.e35.symm (ne_cons fr.e36.symm fr.n3))) fr.d3 h0 (by (first | lia | omega)) hm1 (u0 _ qca) hcl hln ?_)
  intro at_ ta number tn limit tl o3' cA tA nA hA tkA mA FA NA dA a0 a1 n1 n2 l0 l1 clo chi mat mlim mo
  dsimp only
  -- looks and my_whole
  have hk9 : number ≠ 100 := by (first | lia | omega)
  have u1 : ∀ p ∈ S, p ∈ (D, deckO dl cA tA nA) :: (c3, o3') :: (c5, o5) :: (c6, o6) :: S := up4
  refine wpAny_execs_cons (t1 (st := turnSt w.params 1) (T0 := (D, deckO dl cA tA nA) :: (c3, o3') :: (c5, o5) :: (c6, o6) :: S) hsc rfl B FA X T (fun p hp => NA p (su_cons (up2 _ List.mem_cons_self) (su_cons List.mem_cons_self (su_cons (up1 _ List.mem_cons_self) up3)) p hp)) (u1 _ q2) e2 (up1 _ List.mem_cons_self) dA d4 (ne_cons fr.d4.symm (ne_cons fr.e34 (ne_cons fr.e45.symm (ne_cons fr.e46.symm fr.n4)))) ((mo _ (by decide) (by decide)).trans hm1) (u1 _ qca) (by (first | lia | omega)) (st.hch.mono u1) hk9 st.hhv st.hhs ?_)
  intro x ll wl o4' hB tkB mB FB NB apx apx4 d4' hL hW mwh moB
  dsimp only
  generalize hT1 : (c4, o4') :: (x ++ (D, deckO dl cA tA nA) :: (c3, o3') :: (c5, o5) :: (c6, o6) :: S) = T1 at NB
  have e1' : ∀ p ∈ (c4, o4') :: (x ++ (D, deckO dl cA tA nA) :: (c3, o3') :: (c5, o5) :: (c6, o6) :: S), p ∈ T1 := hT1 ▸ fun _ h => h
  clear hT1
  have v1' : ∀ p ∈ (D, deckO dl cA tA nA) :: (c3, o3') :: (c5, o5) :: (c6, o6) :: S, p ∈ T1 := fun p hp => e1' _ (up1 _ (List.mem_append_right _ hp))
  have u2 : ∀ p ∈ S, p ∈ T1 := fun p hp => v1' _ (up4 _ hp)
  have w2 : ListAt (DictAt PySem.Challenge.rw_np0087_01.row.prog w) T1 wl chs := hW.mono (cmp_dict _ _) fun p hp => e1' _ (up1 _ hp)
  have k2 : ListAt LookAt T1 ll (chs.map fun c => valIn c number held) := hL.mono (cmp_look PySem.Challenge.rw_np0087_01.row.prog w) fun p hp => e1' _ (up1 _ (List.mem_append_left _ hp))
  have hz2 : (chs.map fun c => valIn c number held).length = chs.length := List.length_map ..
  have mB1 : mB (Str.ofString "chars") = some (.ref ca) := (moB _ (by decide)).trans ((mo _ (by decide) (by decide)).trans hm1)
  have mB2 : mB (Str.ofString "props") = some (.ref props) := (moB _ (by decide)).trans ((mo _ (by decide) (by decide)).trans hm2)
  have mB3 : mB (Str.ofString "rules") = some (.ref rules) := (moB _ (by decide)).trans ((mo _ (by decide) (by decide)).trans hm3)
  have mB4 := (moB _ (by decide)).trans mat
  have mB5 := (moB _ (by decide)).trans mlim
  have r4 : (c4, o4') ∈ T1 := e1' _ List.mem_cons_self
  have r3 : (c3, o3') ∈ T1 := v1' _ (up1 _ List.mem_cons_self)
  -- due
  refine wpAny_execs_cons (t2 (st := turnSt w.params 2) (ln := chs.length) hsc rfl B FB X T NB mB1 (u2 _ qca) hcl hln mwh w2 r4 d4' k2 mB4 mB5 rfl hz2 a0 a1 l0 l1 ?_)
  intro da v1 v2 nd hC tkC mC FC NC p1 p2 mdu moC
  dsimp only
  refine wpAny_execs_cons (t3 (st := turnSt w.params 3) (ln := chs.length) hsc rfl B FC X T NC ((moC _ (by decide)).trans mwh) (w2.mono (cmp_dict _ _) fun p hp => List.mem_cons_of_mem _ hp) (List.mem_cons_of_mem _ r4) d4' (k2.mono (cmp_look PySem.Challenge.rw_np0087_01.row.prog w) fun p hp => List.mem_cons_of_mem _ hp) mdu List.mem_cons_self ((moC _ (by decide)).trans mB4) ((moC _ (by decide)).trans mB5) rfl hz2 hln a0 a1 ?_)
  intro da2 v3 v4 nd2 hD tkD mD FD ND p3 p4 mdu2 moD
  dsimp only
  -- my_told
  refine wpAny_execs_cons (t4 (st := turnSt w.params 4) hsc rfl B FD X T ND ((moD _ (by decide)).trans ((moC _ (by decide)).trans mB2)) ((moD _ (by decide)).trans ((moC _ (by decide)).trans mB3)) ((moD _ (by decide)).trans ((moC _ (by decide)).trans mB4)) ((moD _ (by decide)).trans ((moC _ (by decide)).trans mB5)) (List.mem_cons_of_mem _ (List.mem_cons_of_mem _ r3)) dA (st.H.mono fun p hp => List.mem_cons_of_mem _ (List.mem_cons_of_mem _ (u2 p hp))) (st.HR.mono fun p hp => List.mem_cons_of_mem _ (List.mem_cons_of_mem _ (u2 p hp))) hk9 a0 ?_)
  intro ma v5 v6 nm hE tkE mE FE NE p5 p6 mma moE
  dsimp only
  refine wpAny_execs_cons (t5 (st := turnSt w.params 5) hsc rfl B FE X T NE ((moE _ (by decide)).trans ((moD _ (by decide)).trans ((moC _ (by decide)).trans mB2))) ((moE _ (by decide)).trans ((moD _ (by decide)).trans ((moC _ (by decide)).trans mB3))) ((moE _ (by decide)).trans ((moD _ (by decide)).trans ((moC _ (by decide)).trans mB4))) ((moE _ (by decide)).trans ((moD _ (by decide)).trans ((moC _ (by decide)).trans mB5))) mma List.mem_cons_self (List.mem_cons_of_mem _ (List.mem_cons_of_mem _ (List.mem_cons_of_mem _ r3))) dA (st.H.mono fun p hp => List.mem_cons_of_mem _ (List.mem_cons_of_mem _ (List.mem_cons_of_mem _ (u2 p hp)))) (st.HR.mono fun p hp => List.mem_cons_of_mem _ (List.mem_cons_of_mem _ (List.mem_cons_of_mem _ (u2 p hp)))) hk9 a1 ?_)
  intro ma2 v7 v8 nm2 hG tkG mG FG NG p7 p8 mma2 moG
  dsimp only
  refine wpAny_execs_cons (t6 (st := turnSt w.params 6) (os := [nxG chs at_ limit, nxG (chs.map fun c => valIn c number held) at_ limit, laG chs at_ limit, laG (chs.map fun c => valIn c number held) at_ limit]) hsc rfl B FG X T NG mma2 ((moG _ (by decide)).trans ((moE _ (by decide)).trans mdu2)) List.mem_cons_self (List.mem_cons_of_mem _ (List.mem_cons_of_mem _ List.mem_cons_self)) (.cons p5 (.cons p6 (.cons p7 (.cons p8 .nil)))) (.cons p1 (.cons p2 (.cons p3 (.cons p4 .nil)))) ?_)
  intro hH tkH FH NH
  dsimp only
  have mG1 : mG (Str.ofString "chars") = some (.ref ca) := (moG _ (by decide)).trans ((moE _ (by decide)).trans ((moD _ (by decide)).trans ((moC _ (by decide)).trans mB1)))
  have mG2 : mG (Str.ofString "props") = some (.ref props) := (moG _ (by decide)).trans ((moE _ (by decide)).trans ((moD _ (by decide)).trans ((moC _ (by decide)).trans mB2)))
  have mG3 : mG (Str.ofString "rules") = some (.ref rules) := (moG _ (by decide)).trans ((moE _ (by decide)).trans ((moD _ (by decide)).trans ((moC _ (by decide)).trans mB3)))
  have mG4 := (moG _ (by decide)).trans ((moE _ (by decide)).trans ((moD _ (by decide)).trans ((moC _ (by decide)).trans mB4)))
  have xD : ∀ p ∈ x, p.1 ≠ D := fun p hp => (apx p hp (D, deckO dl cA tA nA) List.mem_cons_self).symm
  have x3 : ∀ p ∈ x, p.1 ≠ c3 := fun p hp => (apx p hp (c3, o3') (up1 _ List.mem_cons_self)).symm
  have x5 : ∀ p ∈ x, p.1 ≠ c5 := fun p hp => (apx p hp (c5, o5) (up2 _ List.mem_cons_self)).symm
  have x6 : ∀ p ∈ x, p.1 ≠ c6 := fun p hp => (apx p hp (c6, o6) (up3 _ List.mem_cons_self)).symm
  -- value
  have u7 : ∀ p ∈ S, p ∈ (c3, o3') :: (c4, o4') :: (c6, o6) :: (x ++ S) := fun p hp => up3 _ (List.mem_append_right _ hp)
  refine wpAny_execs_cons (t7 (st := turnSt w.params 7) (c := cA) (t := tA) (n := nA) (T0 := (c3, o3') :: (c4, o4') :: (c6, o6) :: (x ++ S)) hsc rfl B FH X T (fun p hp => NH p (up4 _ (su_cons (v1' _ List.mem_cons_self) (su_cons (v1' _ (up2 _ List.mem_cons_self)) (su_cons r3 (su_cons r4 (su_cons (v1' _ (up3 _ List.mem_cons_self)) (su_app (fun p hp => e1' _ (up1 _ (List.mem_append_left _ hp))) u2))))) p hp))) (st.hi.mono u7) (u7 _ q1) e1 d5 (ne_cons fr.d3 (ne_cons fr.d4 (ne_cons fr.d6 (ne_app xD fr.nD)))) (ne_cons fr.e35 (ne_cons fr.e45 (ne_cons fr.e56.symm (ne_app x5 fr.n5)))) fr.d5 (by (first | lia | omega)) (by (first | lia | omega)) ?_)
  intro o5' v y c' t' n' hI tkI FI NI d5' hpv hys cl2 ch2
  dsimp only
  clear NH NG NE ND NC NB NA
  -- with_it
  have N8 : News h₀ L hI ((c6, o6) :: (D, deckO dl c' t' n') :: (c3, o3') :: (c4, o4') :: (c5, o5') :: (x ++ S)) := fun p hp => NI p (su_cons (up4 _ List.mem_cons_self) (su_cons List.mem_cons_self (su_cons (up2 _ List.mem_cons_self) (su_cons (up3 _ List.mem_cons_self) (su_cons (up1 _ List.mem_cons_self) up5)))) p hp)
  generalize hT8 : (D, deckO dl c' t' n') :: (c3, o3') :: (c4, o4') :: (c5, o5') :: (x ++ S) = T8 at N8
  have e8 : ∀ p ∈ (D, deckO dl c' t' n') :: (c3, o3') :: (c4, o4') :: (c5, o5') :: (x ++ S), p ∈ T8 := hT8 ▸ fun _ h => h
  have z8 : ∀ p ∈ T8, p.1 ≠ c6 := hT8 ▸ ne_cons fr.d6.symm (ne_cons fr.e36 (ne_cons fr.e46 (ne_cons fr.e56 (ne_app x6 fr.n6))))
  clear hT8
  have u8 : ∀ p ∈ S, p ∈ T8 := fun p hp => e8 _ (up4 _ (List.mem_append_right _ hp))
  have k8 : ListAt LookAt T8 ll (chs.map fun c => valIn c number held) := hL.mono (cmp_look PySem.Challenge.rw_np0087_01.row.prog w) fun p hp => e8 _ (up4 _ (List.mem_append_left _ hp))
  have s3 : (c3, o3') ∈ T8 := e8 _ (up1 _ List.mem_cons_self)
  have s4 : (c4, o4') ∈ T8 := e8 _ (up2 _ List.mem_cons_self)
  have s5 : (c5, o5') ∈ T8 := e8 _ (up3 _ List.mem_cons_self)
  refine wpAny_execs_cons (t8 (st := turnSt w.params 8) (T0 := T8) (ln := chs.length) hsc rfl B FI X T N8 d6 z8 mG1 (u8 _ qca) hcl hln s4 d4' k8 hz2 s5 d5' hpv mG4 a0 a1 ?_)
  intro x2 o6' wa ys hJ tkJ FJ NJ d6' hys2
  dsimp only
  generalize hT9 : (c6, o6') :: (wa, LCg.lst ys) :: (x2 ++ T8) = T9 at NJ
  have u9 : ∀ p ∈ T8, p ∈ T9 := hT9 ▸ fun p hp => up2 _ (List.mem_append_right _ hp)
  have i6 : (c6, o6') ∈ T9 := hT9 ▸ List.mem_cons_self
  have iw : (wa, LCg.lst ys) ∈ T9 := hT9 ▸ up1 _ List.mem_cons_self
  clear hT9
  -- my_without
  refine wpAny_execs_cons (t9 (nw := 0) (st := turnSt w.params 9) (ln := chs.length) hsc rfl B FJ X T NJ mG1 (u9 _ (u8 _ qca)) hcl hln i6 d6' iw hys2 mG4 a0 a1 ?_)
  intro mw ys2 hK tkK mK FK NK hys3 mwo moK
  dsimp only
  have uS : ∀ p ∈ S, p ∈ (mw, LCg.lst ys2) :: T9 := fun p hp => List.mem_cons_of_mem _ (u9 _ (u8 _ hp))
  -- my_told
  refine wpAny_execs_cons (t10 (st := turnSt w.params 10) hsc rfl B FK X T NK ((moK _ (by decide)).trans mG2) ((moK _ (by decide)).trans mG3) ((moK _ (by decide)).trans mG4) ((moK _ (by decide)).trans mG1) (uS _ qca) hcl hln (List.mem_cons_of_mem _ (u9 _ s3)) dA (List.mem_cons_of_mem _ (u9 _ s5)) d5' hpv hys (st.H.mono uS) (st.HR.mono uS) hk9 a0 a1 ?_)
  intro mt v9 nt hM tkM mM FM NM nemt p9 mmt moM
  dsimp only
  refine wpAny_execs_cons (t11 (st := turnSt w.params 11) hsc rfl B FM X T NM nemt mmt ((moM _ (by decide)).trans ((moK _ (by decide)).trans mG2)) ((moM _ (by decide)).trans ((moK _ (by decide)).trans mG3)) ((moM _ (by decide)).trans ((moK _ (by decide)).trans mG4)) ((moM _ (by decide)).trans ((moK _ (by decide)).trans mG1)) (uS _ qca) hcl hln (List.mem_cons_of_mem _ (u9 _ s3)) dA (List.mem_cons_of_mem _ (u9 _ s5)) d5' hpv hys (st.H.mono uS) (st.HR.mono uS) hk9 a0 a1 ?_)
  intro v10 nt2 hO tkO FO NO p10
  dsimp only
  have hcong : placesF (fun j => !decide ((j : Int) ∈ placesF (shows (chs.map fun c => valIn c number held) y) at_.toNat (chs.length - at_).toNat)) at_.toNat (chs.length - at_).toNat = placesF (fun j => !shows (chs.map fun c => valIn c number held) y j) at_.toNat (chs.length - at_).toNat := by
    refine places_congr fun j h1 h2 => congrArg _ ?_
    rw [Bool.eq_iff_iff, decide_eq_true_eq, places_mem]
    constructor
    · rintro ⟨k, e, _, _, h⟩
      obtain rfl : j = k := by (first | lia | omega)
      exact h
    · exact fun h => ⟨j, rfl, h1, h2, h⟩
  rw [hcong] at hys3
  refine wpAny_execs_cons (t12 (st := turnSt w.params 12) hsc rfl B FO X T NO mmt List.mem_cons_self (.cons p9 (.cons p10 .nil)) (List.mem_cons_of_mem _ (List.mem_cons_of_mem _ i6)) d6' (List.mem_cons_of_mem _ (List.mem_cons_of_mem _ iw)) hys2 ((moM _ (by decide)).trans mwo) (List.mem_cons_of_mem _ List.mem_cons_self) hys3 ?_)
  intro hP tkP FP NP
  dsimp only
  refine wpAny_execs_nil ?_
  refine next c' t' n' o3' o4' o5' o6' _ _ _ _ hP tkP mM FP (fun p hp => NP p (su_cons (up2 _ (u9 _ (e8 _ List.mem_cons_self))) (su_cons (up2 _ (u9 _ s3)) (su_cons (up2 _ (u9 _ s4)) (su_cons (up2 _ (u9 _ s5)) (su_cons (up2 _ i6) fun p hp => up2 _ (u9 _ (u8 p hp)))))) p hp)) dA d4' d5' d6' (by (first | lia | omega)) (by (first | lia | omega)) ((moM _ (by decide)).trans ((moK _ (by decide)).trans mG1)) ((moM _ (by decide)).trans ((moK _ (by decide)).trans mG2)) ((moM _ (by decide)).trans ((moK _ (by decide)).trans mG3))
end
end TT13

section TT14
open PySem PySem.W PyProof.Rows PySem.Calls PySem.Spec
set_option maxRecDepth 100000
set_option maxHeartbeats 8000000
theorem body_of {P : PySem.Params} {a i : Expr} {bd els : List Stmt} {ps : Pos} (h : Stmt.For a i bd els ps = lawSt P 8) : bd = turnBody P := by
  unfold lawSt at h
  unfold turnBody
  split at h
  · rename_i st l e
    rw [e, ← h]
  · cases h
theorem Far.cons {S : Led} {D c3 c4 c5 c6 I : Addr} {o : Obj} (h : Far S D c3 c4 c5 c6) (a : @Ne Nat I D) (b : @Ne Nat I c3) (c : @Ne Nat I c4) (d : @Ne Nat I c5) (e : @Ne Nat I c6) : Far ((I, o) :: S) D c3 c4 c5 c6 :=
  { h with nD := ne_cons a h.nD, n3 := ne_cons b h.n3, n4 := ne_cons c h.n4, n5 := ne_cons d h.n5, n6 := ne_cons e h.n6 }
inductive TurnJ (D dl c3 c4 c5 c6 ca props rules : Addr) (S : Led) (i : Nat) (m : Str → Option Value) (nx : Led) : Prop
  | mk (c : Int) (t n : Nat) (o3 o4 o5 o6 : Obj) (v3 v4 v5 v6 : Option Value) (e : nx = (D, deckO dl c t n) :: (c3, o3) :: (c4, o4) :: (c5, o5) :: (c6, o6) :: S) (d3 : o3.data = .cell v3) (d4 : o4.data = .cell v4) (d5 : o5.data = .cell v5) (d6 : o6.data = .cell v6) (h0 : 0 ≤ c) (h1 : c ≤ 100 + 4 * (i : Int))
    (hm1 : m (Str.ofString "chars") = some (.ref ca)) (hm2 : m (Str.ofString "props") = some (.ref props)) (hm3 : m (Str.ofString "rules") = some (.ref rules))
section
variable {w : World} {p : Program} {loose : List Str} {mean : ExcName → Option Value} {mg mb : Str → Option Value} {h₀ : Heap} {L fa c1 c2 c3 c4 c5 c6 D dl ca props rules : Addr} {m : Str → Option Value} {s : Shared} {cd : Value} {Q : Flow → Shared → Prop} {sc : PySem.Scope} {st : Stmt} {S : Led} {n : Nat}
  {o3 o4 o5 o6 : Obj} {v3 v4 v5 v6 : Option Value} {c : Int} {t : Tok} {cv : List Value} {chs : List Pl} {hv : Value} {held : PV}
theorem lnj82 : True := by
  (k_with "execs cons#" => ((fail_if_success k_extra "off j53"); (refine stop_any ?_)))
  trivial
theorem st8 (hsc : sc = scopeAt w.params 543) (hst : st = lawSt w.params 8) (B : Below callerA h₀ [] h₀) (F : Fr h₀ L s.heap m) (X : (Mine.K0 w.params).In h₀) (T : Top p loose mean mg mb h₀)
    (N : News h₀ L s.heap ((D, deckO dl c t n) :: (c3, o3) :: (c4, o4) :: (c5, o5) :: (c6, o6) :: S)) (sta : Sta w S c1 c2 D dl ca props rules cv chs hv held) (far : Far S D c3 c4 c5 c6)
    (d3 : o3.data = .cell v3) (d4 : o4.data = .cell v4) (d5 : o5.data = .cell v5) (d6 : o6.data = .cell v6) (h0 : 0 ≤ c) (h1 : c ≤ 100)
    (hm1 : m (Str.ofString "chars") = some (.ref ca)) (hm2 : m (Str.ofString "props") = some (.ref props)) (hm3 : m (Str.ofString "rules") = some (.ref rules))
    (next : ∀ h' tk m' nx, Fr h₀ L h' m' → News h₀ L h' nx → Q .next { s with heap := h', toks := tk }) :
    wpAny (model PySem.Challenge.rw_np0087_01.row.prog w) (callerA.deeper (lawEnv sc L fa cd c1 c2 c3 c4 c5 c6)) (exec st (lawEnv sc L fa cd c1 c2 c3 c4 c5 c6)) Q (fun _ _ => False) s := by
  have hsc0 := hsc
  have hst0 := hst
  conv at hsc => rhs; whnf
  conv at hst => rhs; whnf
  subst hsc hst
  (first | refine fold_st ?_ | refine fold_sts ?_)
  intro en9 ak9
  have hAu9 : ak9.units = callerA.units + 3 := rfl
  have S9 : Site w ak9 _ _ h₀ L := Site.mk B X T rfl
  have hb0 := body_of hst0
  k_extra "mine steps"
  (with_reducible rename IsRange _ _ _ _ _ _ _ _ => hR)
  (with_reducible rename Fr _ _ _ _ => F9)
  (with_reducible rename News _ _ _ _ => N9)
  refine for_range0 (n := 4) (TurnJ D dl c3 c4 c5 c6 ca props rules S) rfl hR (by (first | lia | omega)) (by (first | lia | omega)) rfl F9 N9 ⟨c, t, n, o3, o4, o5, o6, v3, v4, v5, v6, rfl, d3, d4, d5, d6, h0, by (first | lia | omega), hm1, hm2, hm3⟩ ?_ ?_
  · clear F9 N9 hR
    rintro I o i kk t1 m₁ nx h2 tk1 hI hne hi hkk ⟨c', t', n', p3, p4, p5, p6, x3, x4, x5, x6, rfl, e3, e4, e5, e6, g0, g1, k1, k2, k3⟩ F' N'
    have iD : @Ne Nat I D := (hne _ List.mem_cons_self).symm
    have i3 : @Ne Nat I c3 := (hne _ (up1 _ List.mem_cons_self)).symm
    have i4 : @Ne Nat I c4 := (hne _ (up2 _ List.mem_cons_self)).symm
    have i5 : @Ne Nat I c5 := (hne _ (up3 _ List.mem_cons_self)).symm
    have i6 : @Ne Nat I c6 := (hne _ (up4 _ List.mem_cons_self)).symm
    k_extra "mine steps"
    (with_reducible rename Fr _ _ _ _ => F8)
    (with_reducible rename News _ _ _ _ => N8)
    refine turn (sc := _) (S := (I, o) :: S) (c := c') (t := t') (n := n') (o3 := p3) (o4 := p4) (o5 := p5) (o6 := p6) hsc0 hb0 B F8 X T (fun p hp => N8 p (su_cons (up1 _ List.mem_cons_self) (su_cons (up2 _ List.mem_cons_self) (su_cons (up3 _ List.mem_cons_self) (su_cons (up4 _ List.mem_cons_self) (su_cons (up5 _ List.mem_cons_self) (su_cons List.mem_cons_self fun p hp => up1 _ (up5 _ hp)))))) p hp)) (sta.mono fun p hp => List.mem_cons_of_mem _ hp) (far.cons iD i3 i4 i5 i6) e3 e4 e5 e6 g0 (by (first | lia | omega)) (by k_extra "mine look") (by k_extra "mine look") (by k_extra "mine look") ?_
    intro c2' t2' n2' o3' o4' o5' o6' y3 y4 y5 y6 h' tk m' F7 N7 a3 a4 a5 a6 ge le r1 r2 r3
    refine ForEnd.intro (nx' := (D, deckO dl c2' t2' n2') :: (c3, o3') :: (c4, o4') :: (c5, o5') :: (c6, o6') :: S) F7 (fun p hp => N7 p (su_cons (up5 _ List.mem_cons_self) (su_cons List.mem_cons_self (su_cons (up1 _ List.mem_cons_self) (su_cons (up2 _ List.mem_cons_self) (su_cons (up3 _ List.mem_cons_self) (su_cons (up4 _ List.mem_cons_self) fun p hp => up1 _ (up5 _ hp)))))) p hp)) ?_ ⟨c2', t2', n2', o3', o4', o5', o6', y3, y4, y5, y6, rfl, a3, a4, a5, a6, by (first | lia | omega), by (first | lia | omega), r1, r2, r3⟩
    exact ne_cons iD.symm (ne_cons i3.symm (ne_cons i4.symm (ne_cons i5.symm (ne_cons i6.symm fun p hp => hne p (up5 _ hp)))))
  · clear F9 N9 hR
    rintro m₁ nx h2 tk1 hJ F' N'
    exact next _ _ _ _ F' N'
theorem st9 (hsc : sc = scopeAt w.params 543) (hst : st = lawSt w.params 9) (B : Below callerA h₀ [] h₀) (F : Fr h₀ L s.heap m) (X : (Mine.K0 w.params).In h₀) (T : Top p loose mean mg mb h₀) {nx : Led} (N : News h₀ L s.heap nx)
    (next : ∀ h' tk, Fr h₀ L h' m → Q (.ret (.bool true)) { s with heap := h', toks := tk }) :
    wpAny (model PySem.Challenge.rw_np0087_01.row.prog w) (callerA.deeper (lawEnv sc L fa cd c1 c2 c3 c4 c5 c6)) (exec st (lawEnv sc L fa cd c1 c2 c3 c4 c5 c6)) Q (fun _ _ => False) s := by
  conv at hsc => rhs; whnf
  conv at hst => rhs; whnf
  subst hsc hst
  (first | refine fold_st ?_ | refine fold_sts ?_)
  intro en9 ak9
  have hAu9 : ak9.units = callerA.units + 3 := rfl
  have S9 : Site w ak9 _ _ h₀ L := Site.mk B X T rfl
  k_extra "mine steps"
  exact next _ _ (by k_asm)
end
end TT14

section TT15
open PySem PySem.W PyProof.Rows PySem.Calls PySem.Spec
set_option maxRecDepth 100000
set_option maxHeartbeats 8000000
theorem lnj83 : True := by
  (k_with "off j53" => skip)
  trivial
theorem rest4 (P : PySem.Params) : lawRest P 4 = [lawSt P 4, lawSt P 5, lawSt P 6, lawSt P 7, lawSt P 8, lawSt P 9] := by
  have h : (bodyAt P 543).length = 10 := by with_unfolding_all rfl
  unfold lawSt lawRest
  generalize bodyAt P 543 = l at h
  match l, h with
  | [_, _, _, _, _, _, _, _, _, _], _ => rfl
theorem ItemsAt.rep {T : Led} {pl : Addr} {c : Pl} (n : Nat) {cv : List Value} {chs : List Pl} (h : IsPl T pl c ∧ WfPl c ∧ Canon c ∧ c.length ≤ 3) (r : CharsAt T cv chs) : CharsAt T (List.replicate n (.ref pl) ++ cv) (List.replicate n c ++ chs) where
  len := by simp [r.len]
  at' := fun i a hi => by
    rw [List.getElem?_append] at hi
    split at hi
    · rename_i hlt
      rw [List.getElem?_replicate] at hi
      split at hi
      · cases hi
        exact ⟨pl, by rw [List.getElem?_append_left (by simpa using hlt), List.getElem?_replicate, if_pos (by simpa using hlt)], h⟩
      · cases hi
    · rename_i hge
      simp only [List.length_replicate] at hge hi
      obtain ⟨q, e, hq⟩ := r.at' _ _ hi
      exact ⟨q, by rw [List.getElem?_append_right (by simp; (first | lia | omega)), List.length_replicate]; exact e, hq⟩
theorem od_cons {x : Addr × Obj} {l T : Led} (h : x ∈ T ∨ Odd x.2) (r : ∀ p ∈ l, p ∈ T ∨ Odd p.2) : ∀ p ∈ x :: l, p ∈ T ∨ Odd p.2 := List.forall_mem_cons.mpr ⟨h, r⟩
theorem od_app {x l T : Led} (h : ∀ p ∈ x, p ∈ T) (r : ∀ p ∈ l, p ∈ T ∨ Odd p.2) : ∀ p ∈ x ++ l, p ∈ T ∨ Odd p.2 := fun p hp => (List.mem_append.mp hp).elim (fun q => .inl (h p q)) (r p)
theorem od_cell {a : Addr} {o : Obj} {v : Option Value} {l T : Led} (h : o.data = .cell v) (r : ∀ p ∈ l, p ∈ T ∨ Odd p.2) : ∀ p ∈ (a, o) :: l, p ∈ T ∨ Odd p.2 := od_cons (.inr (.inl ⟨v, h⟩)) r
theorem nd6 {a b c d e f : Nat} (h : List.Nodup [a, b, c, d, e, f]) : (a ≠ b ∧ a ≠ c ∧ a ≠ d ∧ a ≠ e ∧ a ≠ f) ∧ (b ≠ c ∧ b ≠ d ∧ b ≠ e ∧ b ≠ f) ∧ (c ≠ d ∧ c ≠ e ∧ c ≠ f) ∧ (d ≠ e ∧ d ≠ f) ∧ e ≠ f := by
  simpa only [List.nodup_cons, List.mem_cons, List.not_mem_nil, or_false, not_or, List.nodup_nil, and_true, not_false_eq_true] using h
theorem in6 {P : Nat → Prop} {a b c d e f : Nat} (ha : P a) (hb : P b) (hc : P c) (hd : P d) (he : P e) (hf : P f) : ∀ z ∈ ([a, b, c, d, e, f] : List Nat), P z :=
  List.forall_mem_cons.mpr ⟨ha, List.forall_mem_cons.mpr ⟨hb, List.forall_mem_cons.mpr ⟨hc, List.forall_mem_cons.mpr ⟨hd, List.forall_mem_cons.mpr ⟨he, List.forall_mem_cons.mpr ⟨hf, fun _ h => nomatch h⟩⟩⟩⟩⟩⟩
theorem apD {x l : Led} (h : Apart x l) {a : Nat} {o : Obj} (m : (a, o) ∈ l) : ∀ p ∈ x, p.1 ≠ a := fun p hp => (h p hp _ m).symm
theorem rules_has {w : World} {prog : Program} {x7 S : Led} {rl lisp ld pd hl ht : Addr} {o' : Obj} {t2 s0 s1 s2 s3 b0 : Tok} {hv : Value} {held : PV} {k6 : Nat} (hR7 : RulesAt w.params x7 rl lisp) (s : ∀ p ∈ x7, p ∈ S) (m3 : (lisp, instObj 487 ld) ∈ S) (m4 : (ld, lispD w.params t2 s0 s1 s2 s3 pd) ∈ S)
    (m5 : (pd, o') ∈ S) (hsy : (pd == sysModules) = false) (hod : o'.IsDictOf (intKind prog w) [(7, .ref hl)]) (m6 : (hl, listOf #[.ref ht] k6) ∈ S) (m7 : (ht, tupObj [.int 2 b0, hv]) ∈ S) (hvp : PVal [] hv held) (hvs : held.isSym = false) : HasRules w.params S rl held := by
  obtain ⟨dr, df, y0, y1, y2, y3, y4, y5, y6, y7, y8, z0, z1, z2, z3, z4, hr1, hr2⟩ := hR7
  exact ⟨dr, lisp, ld, pd, hl, ht, df, o', y0, y1, y2, y3, y4, y5, y6, y7, y8, z0, z1, z2, z3, z4, s0, s1, s2, s3, t2, b0, hv, k6, s _ hr1, s _ hr2, m3, m4, m5, hsy, fun _ _ _ => int_dict hod, m6, m7, hvp, hvs⟩
theorem chars_at {T : Led} : ∀ {l : List Row}, (∀ r ∈ l, r.Ok T) → CharsAt T (charsV l) (expR l)
  | [], _ => ⟨rfl, fun i a h => by simp [expR] at h⟩
  | r :: l, h => by
    have ok := h r List.mem_cons_self
    exact ItemsAt.rep _ ⟨ok.pl, ok.wf, ok.cn, ok.len⟩ (chars_at fun r hr => h r (List.mem_cons_of_mem _ hr))
section
variable {w : World} {p : Program} {loose : List Str} {mean : ExcName → Option Value} {mg mb : Str → Option Value} {h₀ : Heap} {L fa c1 c2 c3 c4 c5 c6 D dl : Addr} {m : Str → Option Value} {s : Shared} {cd : Value} {Q : Flow → Shared → Prop} {sc : PySem.Scope} {b : List Stmt} {S0 : Led} {n : Nat}
  {o1 o2 o3 o4 o5 o6 : Obj} {v2 v3 v4 v5 v6 : Option Value} {t : Tok}
theorem run (hsc : sc = scopeAt w.params 543) (hb : b = lawRest w.params 1) (B : Below callerA h₀ [] h₀) (F : Fr h₀ L s.heap m) (X : (Mine.K0 w.params).In h₀) (T : Top p loose mean mg mb h₀)
    (N : News h₀ L s.heap ((D, deckO dl 0 t n) :: (c2, o2) :: (c3, o3) :: (c4, o4) :: (c5, o5) :: (c6, o6) :: S0)) (hi : IsInts S0 dl) (hc1 : (c1, o1) ∈ S0) (d1 : o1.data = .cell (some (.ref D)))
    (d2 : o2.data = .cell v2) (d3 : o3.data = .cell v3) (d4 : o4.data = .cell v4) (d5 : o5.data = .cell v5) (d6 : o6.data = .cell v6)
    (nd : List.Nodup ([D, c2, c3, c4, c5, c6] : List Nat)) (hS0 : ∀ a ∈ ([D, c2, c3, c4, c5, c6] : List Nat), ∀ p ∈ S0, p.1 ≠ a)
    (next : ∀ h' tk m', Fr h₀ L h' m' → Q (.ret (.bool true)) { s with heap := h', toks := tk }) :
    wpAny (model PySem.Challenge.rw_np0087_01.row.prog w) (callerA.deeper (lawEnv sc L fa cd c1 c2 c3 c4 c5 c6)) (execs b (lawEnv sc L fa cd c1 c2 c3 c4 c5 c6)) Q (fun _ _ => False) s := by
  have nd := nd6 nd
  have n1 := nd.1.1
  have n2 := nd.1.2.1
  have n3 := nd.1.2.2.1
  have n4 := nd.1.2.2.2.1
  have n5 := nd.1.2.2.2.2
  have nb := nd.2.1
  have n10 := nd.2.2.1
  have n13 := nd.2.2.2.1
  have n15 := nd.2.2.2.2
  clear nd
  have iD : D ∈ ([D, c2, c3, c4, c5, c6] : List Nat) := List.mem_cons_self
  have i2 : c2 ∈ ([D, c2, c3, c4, c5, c6] : List Nat) := List.mem_cons_of_mem _ List.mem_cons_self
  have i3 : c3 ∈ ([D, c2, c3, c4, c5, c6] : List Nat) := List.mem_cons_of_mem _ (List.mem_cons_of_mem _ List.mem_cons_self)
  have i4 : c4 ∈ ([D, c2, c3, c4, c5, c6] : List Nat) := List.mem_cons_of_mem _ (List.mem_cons_of_mem _ (List.mem_cons_of_mem _ List.mem_cons_self))
  have i5 : c5 ∈ ([D, c2, c3, c4, c5, c6] : List Nat) := List.mem_cons_of_mem _ (List.mem_cons_of_mem _ (List.mem_cons_of_mem _ (List.mem_cons_of_mem _ List.mem_cons_self)))
  have i6 : c6 ∈ ([D, c2, c3, c4, c5, c6] : List Nat) := List.mem_cons_of_mem _ (List.mem_cons_of_mem _ (List.mem_cons_of_mem _ (List.mem_cons_of_mem _ (List.mem_cons_of_mem _ List.mem_cons_self))))
  generalize hR : (c2, o2) :: (c3, o3) :: (c4, o4) :: (c5, o5) :: (c6, o6) :: S0 = R at N
  have uR : ∀ p ∈ S0, p ∈ R := hR ▸ up5
  have m2 : (c2, o2) ∈ R := hR ▸ List.mem_cons_self
  have m3 : (c3, o3) ∈ R := hR ▸ up1 _ List.mem_cons_self
  have m4 : (c4, o4) ∈ R := hR ▸ up2 _ List.mem_cons_self
  have m5 : (c5, o5) ∈ R := hR ▸ up3 _ List.mem_cons_self
  have m6 : (c6, o6) ∈ R := hR ▸ up4 _ List.mem_cons_self
  have hRD : ∀ p ∈ R, p.1 ≠ D := hR ▸ ne_cons (Ne.symm n1) (ne_cons (Ne.symm n2) (ne_cons (Ne.symm n3) (ne_cons (Ne.symm n4) (ne_cons (Ne.symm n5) (hS0 D iD)))))
  have oR : ∀ {G : Led}, (∀ p ∈ S0, p ∈ G) → ∀ p ∈ R, p ∈ G ∨ Odd p.2 := fun u => hR ▸ od_cell d2 (od_cell d3 (od_cell d4 (od_cell d5 (od_cell d6 fun p hp => .inl (u p hp)))))
  clear hR
  refine st1 hsc hb rfl B F X T N (hi.mono uR) (uR _ hc1) d1 hRD ?_
  intro ra ys nx h1 tk1 k F1 N1 hra hJ hk1 hk6
  obtain ⟨x, c, t1, n1', rows, rfl, hxD, hxR, hc0, hc1', hrows, hlen⟩ := hJ
  refine st2 (n := ys.length) hsc rfl rfl B F1 X T N1 (if_pos rfl) List.mem_cons_self (hrows.mono fun p hp => up2 _ (List.mem_append_left _ hp)) (by (first | lia | omega)) ?_
  intro ca kk h2 tk2 m2' F2 N2 hca hm2a hm2b
  rw [rest4]
  generalize hT2 : (ca, listOf (charsV rows).toArray kk) :: (ra, LCg.lst ys) :: (D, deckO dl c t1 n1') :: (x ++ R) = T2 at N2
  have eT2 : ∀ p ∈ (ca, listOf (charsV rows).toArray kk) :: (ra, LCg.lst ys) :: (D, deckO dl c t1 n1') :: (x ++ R), p ∈ T2 := hT2 ▸ fun _ h => h
  obtain ⟨G, hG⟩ : ∃ G, (ca, listOf (charsV rows).toArray kk) :: (ra, LCg.lst ys) :: (x ++ S0) = G := ⟨_, rfl⟩
  have eG : ∀ p ∈ (ca, listOf (charsV rows).toArray kk) :: (ra, LCg.lst ys) :: (x ++ S0), p ∈ G := hG ▸ fun _ h => h
  have uG : ∀ p ∈ S0, p ∈ G := fun p hp => eG _ (up2 _ (List.mem_append_right _ hp))
  have xG : ∀ p ∈ x, p ∈ G := fun p hp => eG _ (up2 _ (List.mem_append_left _ hp))
  have RT : ∀ p ∈ R, p ∈ T2 := fun p hp => eT2 _ (up3 _ (List.mem_append_right _ hp))
  have GT : ∀ p ∈ G, p ∈ T2 := hG ▸ su_cons (eT2 _ List.mem_cons_self) (su_cons (eT2 _ (up1 _ List.mem_cons_self)) (su_app (fun p hp => eT2 _ (up3 _ (List.mem_append_left _ hp))) fun p hp => RT _ (uR p hp)))
  have TG : ∀ p ∈ T2, p ∈ G ∨ Odd p.2 := hT2 ▸ od_cons (.inl (eG _ List.mem_cons_self)) (od_cons (.inl (eG _ (up1 _ List.mem_cons_self))) (od_cons (.inr (.inr ⟨_, _, _, _, rfl⟩)) (od_app xG (oR uG))))
  have aT2 : ∀ a ∈ ([D, c2, c3, c4, c5, c6] : List Nat), ∃ o, (a, o) ∈ (D, deckO dl c t1 n1') :: (x ++ R) := in6 ⟨_, List.mem_cons_self⟩ ⟨_, up1 _ (List.mem_append_right _ m2)⟩ ⟨_, up1 _ (List.mem_append_right _ m3)⟩ ⟨_, up1 _ (List.mem_append_right _ m4)⟩ ⟨_, up1 _ (List.mem_append_right _ m5)⟩ ⟨_, up1 _ (List.mem_append_right _ m6)⟩
  have up2' : ∀ p ∈ (D, deckO dl c t1 n1') :: (x ++ R), p ∈ T2 := fun p hp => eT2 _ (up2 _ hp)
  have xA : ∀ a ∈ ([D, c2, c3, c4, c5, c6] : List Nat), ∀ p ∈ x, p.1 ≠ a := in6 hxD (apD hxR m2) (apD hxR m3) (apD hxR m4) (apD hxR m5) (apD hxR m6)
  have gA : ∀ a ∈ ([D, c2, c3, c4, c5, c6] : List Nat), ∀ p ∈ G, p.1 ≠ a := fun a ha =>
    let ⟨_, ho⟩ := aT2 a ha
    hG ▸ ne_cons (Nat.ne_of_gt (hca _ (up1 _ ho))) (ne_cons (hra _ ho).symm (ne_app (xA a ha) (hS0 a ha)))
  refine wpAny_execs_cons (st3 (st := lawSt w.params 4) (n := ys.length) TG hsc rfl B F2 X T N2 hm2a (eT2 _ (up1 _ List.mem_cons_self)) (hrows.mono fun p hp => eT2 _ (up3 _ (List.mem_append_left _ hp))) (by (first | lia | omega)) (by (first | lia | omega)) ?_)
  intro z props ioc pd o lisp ld t2 s0 s1 s2 s3 h3 tk3 m3' F3 N3 apz nepd htx htot hexp hli hld hod hsy mpr mli mo3
  dsimp only
  have zA : ∀ a ∈ ([D, c2, c3, c4, c5, c6] : List Nat), ∀ p ∈ z ++ G, p.1 ≠ a := fun a ha =>
    let ⟨_, ho⟩ := aT2 a ha
    ne_app (apD apz (up2' _ ho)) (gA a ha)
  have pA : ∀ a ∈ ([D, c2, c3, c4, c5, c6] : List Nat), @Ne Nat pd a := fun a ha =>
    let ⟨_, ho⟩ := aT2 a ha
    (nepd _ (List.mem_append_right _ (up2' _ ho))).symm
  have uz : ∀ p ∈ S0, p ∈ z ++ G := fun p hp => List.mem_append_right _ (uG p hp)
  have hcz : c ≤ 31 := by (first | lia | omega)
  have c3N : ∀ p ∈ (D, deckO dl c t1 n1') :: (x ++ R), p ∈ (pd, o) :: (z ++ T2) := fun p hp => up1 _ (List.mem_append_right _ (up2' p hp))
  have rN : ∀ p ∈ R, p ∈ (pd, o) :: (z ++ T2) := fun p hp => c3N _ (up1 _ (List.mem_append_right _ hp))
  have N3 : News h₀ L h3 ((D, deckO dl c t1 n1') :: (c2, o2) :: (pd, o) :: (c3, o3) :: (c4, o4) :: (c5, o5) :: (c6, o6) :: (z ++ G)) := fun q hq => N3 q (su_cons (c3N _ List.mem_cons_self) (su_cons (rN _ m2) (su_cons List.mem_cons_self (su_cons (rN _ m3) (su_cons (rN _ m4) (su_cons (rN _ m5) (su_cons (rN _ m6) (su_app (fun p hp => up1 _ (List.mem_append_left _ hp)) fun p hp => up1 _ (List.mem_append_right _ (GT p hp))))))))) q hq)
  clear c3N rN
  -- my_held
  refine wpAny_execs_cons (st5 (st := lawSt w.params 5) (T0 := (pd, o) :: (c3, o3) :: (c4, o4) :: (c5, o5) :: (c6, o6) :: (z ++ G)) (c := c) (t := t1) (n := n1') (dl := dl) (D := D) hsc rfl B F3 X T N3 (hi.mono fun p hp => up5 p (uz p hp)) (up5 _ (uz _ hc1)) d1 d2
    (ne_cons (pA D iD) (ne_cons (Ne.symm n2) (ne_cons (Ne.symm n3) (ne_cons (Ne.symm n4) (ne_cons (Ne.symm n5) (zA D iD))))))
    (ne_cons (pA c2 i2) (ne_cons (Ne.symm nb.1) (ne_cons (Ne.symm nb.2.1) (ne_cons (Ne.symm nb.2.2.1) (ne_cons (Ne.symm nb.2.2.2) (zA c2 i2)))))) (Ne.symm n1) hc0 (by (first | lia | omega)) ?_)
  clear N3
  intro o2' hv held c' t3 n3' h5 tk5 F5 N5 d2' hpv hsym cle cge
  dsimp only
  obtain ⟨T6, hT6⟩ : ∃ T6, (D, deckO dl c' t3 n3') :: (c2, o2') :: (c3, o3) :: (c4, o4) :: (c5, o5) :: (c6, o6) :: (z ++ G) = T6 := ⟨_, rfl⟩
  have u6 : ∀ p ∈ z ++ G, p ∈ T6 := hT6 ▸ fun p hp => up1 _ (up5 p hp)
  have k2 : (c2, o2') ∈ T6 := hT6 ▸ up1 _ List.mem_cons_self
  have a6 : ∀ a ∈ ([D, c2, c3, c4, c5, c6] : List Nat), ∃ o, (a, o) ∈ T6 := hT6 ▸ in6 ⟨_, List.mem_cons_self⟩ ⟨_, up1 _ List.mem_cons_self⟩ ⟨_, up2 _ List.mem_cons_self⟩ ⟨_, up3 _ List.mem_cons_self⟩ ⟨_, up4 _ List.mem_cons_self⟩ ⟨_, up5 _ List.mem_cons_self⟩
  have N5 : News h₀ L h5 ((pd, o) :: T6) := hT6 ▸ fun q hq => N5 q (su_cons (up2 _ List.mem_cons_self) (su_cons List.mem_cons_self (su_cons (up1 _ List.mem_cons_self) up3)) q hq)
  have zP : ∀ p ∈ T6, p.1 ≠ pd := hT6 ▸ ne_cons (Ne.symm (pA D iD)) (ne_cons (Ne.symm (pA c2 i2)) (ne_cons (Ne.symm (pA c3 i3)) (ne_cons (Ne.symm (pA c4 i4)) (ne_cons (Ne.symm (pA c5 i5)) (ne_cons (Ne.symm (pA c6 i6)) (ne_app (fun p hp => nepd p (List.mem_append_left _ hp)) fun p hp => nepd p (List.mem_append_right _ (GT p hp))))))))
  refine wpAny_execs_cons (st6 (hl := pd) (st := lawSt w.params 6) (T0 := T6) (pd := pd) (o := o) hsc rfl B F5 X T N5 k2 d2' zP mli (u6 _ (List.mem_append_left _ hli)) (u6 _ (List.mem_append_left _ hld)) hod hsy ?_)
  clear N5
  intro ht hl o' b0 k6 h6 tk6 F6 N6 hod' lt1 lt2
  dsimp only
  refine wpAny_execs_cons (st7 (st := lawSt w.params 7) hsc rfl B F6 X T N6 mli (up3 _ (u6 _ (List.mem_append_left _ hli))) (up3 _ (u6 _ (List.mem_append_left _ hld))) ?_)
  intro x7 rl h7 tk7 m7 F7 N7 new7 hR7 mrl mo7
  dsimp only
  obtain ⟨S, hS⟩ : ∃ S, x7 ++ (hl, listOf #[.ref ht] k6) :: (ht, tupObj [.int 2 b0, hv]) :: (pd, o') :: (c2, o2') :: (z ++ G) = S := ⟨_, rfl⟩
  have eS : ∀ p ∈ x7 ++ (hl, listOf #[.ref ht] k6) :: (ht, tupObj [.int 2 b0, hv]) :: (pd, o') :: (c2, o2') :: (z ++ G), p ∈ S := hS ▸ fun _ h => h
  have uS : ∀ p ∈ z ++ G, p ∈ S := fun p hp => eS _ (List.mem_append_right _ (up4 _ hp))
  have gS : ∀ p ∈ S0, p ∈ S := fun p hp => uS p (uz p hp)
  have sA : ∀ a ∈ ([D, c2, c3, c4, c5, c6] : List Nat), @Ne Nat c2 a → ∀ p ∈ S, p.1 ≠ a := fun a ha h2a =>
    let ⟨_, ho⟩ := a6 a ha
    hS ▸ ne_app (fun p hp => Nat.ne_of_gt (new7 p hp _ (up3 _ ho))) (ne_cons (Nat.ne_of_gt (Nat.lt_trans (lt1 _ ho) lt2)) (ne_cons (Nat.ne_of_gt (lt1 _ ho)) (ne_cons (pA a ha) (ne_cons h2a (zA a ha)))))
  have hok := hrows.ok
  have hch : CharsAt S (charsV rows) (expR rows) := chars_at fun r hr => (hok r hr).mono fun p hp => uS p (List.mem_append_right _ (xG p hp))
  have hcl := chars_len hok
  have x7S : ∀ p ∈ x7, p ∈ S := fun p hp => eS _ (List.mem_append_left _ hp)
  have hHR : HasRules w.params S rl held := rules_has hR7 x7S (uS _ (List.mem_append_left _ hli)) (uS _ (List.mem_append_left _ hld)) (eS _ (List.mem_append_right _ (up2 _ List.mem_cons_self))) hsy hod' (eS _ (List.mem_append_right _ List.mem_cons_self)) (eS _ (List.mem_append_right _ (up1 _ List.mem_cons_self))) hpv hsym
  have sta : Sta w S c1 c2 D dl ca props rl (charsV rows) (expR rows) hv held :=
    ⟨hi.mono gS, ⟨o1, gS _ hc1, d1⟩, ⟨o2', eS _ (List.mem_append_right _ (up3 _ List.mem_cons_self)), d2'⟩, hpv, hsym, ⟨kk, uS _ (List.mem_append_right _ (eG _ List.mem_cons_self))⟩, hch, by have := hch.len; (first | lia | omega), ⟨ioc, htx.mono uS, hexp⟩, hHR⟩
  have far : Far S D c3 c4 c5 c6 :=
    ⟨sA D iD (Ne.symm n1), sA c3 i3 nb.1, sA c4 i4 nb.2.1, sA c5 i5 nb.2.2.1, sA c6 i6 nb.2.2.2, Ne.symm n2, Ne.symm n3, Ne.symm n4, Ne.symm n5, n10.1, n10.2.1, n10.2.2, n13.1, n13.2, n15⟩
  have N7 : News h₀ L h7 ((D, deckO dl c' t3 n3') :: (c3, o3) :: (c4, o4) :: (c5, o5) :: (c6, o6) :: S) := fun q hq => by
    rw [← hS] at hq; rw [← hT6] at N7
    have v : ∀ p ∈ (D, deckO dl c' t3 n3') :: (c2, o2') :: (c3, o3) :: (c4, o4) :: (c5, o5) :: (c6, o6) :: (z ++ G), p ∈ x7 ++ (hl, listOf #[.ref ht] k6) :: (ht, tupObj [.int 2 b0, hv]) :: (pd, o') :: (D, deckO dl c' t3 n3') :: (c2, o2') :: (c3, o3) :: (c4, o4) :: (c5, o5) :: (c6, o6) :: (z ++ G) := fun p hp => List.mem_append_right _ (up3 _ hp)
    exact N7 q (su_cons (v _ List.mem_cons_self) (su_cons (v _ (up2 _ List.mem_cons_self)) (su_cons (v _ (up3 _ List.mem_cons_self)) (su_cons (v _ (up4 _ List.mem_cons_self)) (su_cons (v _ (up5 _ List.mem_cons_self)) (su_app (fun p hp => List.mem_append_left _ hp) (su_cons (List.mem_append_right _ List.mem_cons_self) (su_cons (List.mem_append_right _ (up1 _ List.mem_cons_self)) (su_cons (List.mem_append_right _ (up2 _ List.mem_cons_self)) (su_cons (v _ (up1 _ List.mem_cons_self)) fun p hp => v _ (up1 _ (up5 _ hp))))))))))) q hq)
  refine wpAny_execs_cons (st8 (st := lawSt w.params 8) (S := S) (c := c') (t := t3) (n := n3') hsc rfl B F7 X T N7 sta far d3 d4 d5 d6 (by (first | lia | omega)) (by (first | lia | omega)) ((mo7 _ (by decide)).trans ((mo3 _ (by decide) (by decide)).trans hm2b)) ((mo7 _ (by decide)).trans mpr) mrl ?_)
  clear N7
  intro h8 tk8 m8 nx8 F8 N8
  dsimp only
  refine wpAny_execs_cons (st9 (st := lawSt w.params 9) hsc rfl B F8 X T N8 ?_)
  intro h9 tk9 F9
  dsimp only
  exact next _ _ _ F9
end
end TT15

section TLW

theorem lnj84 : True := by
  (k_with "execs cons#" => ((fail_if_success k_extra "off j54"); (refine stop_any ?_)))
  trivial
theorem stop_in {P : Prop} (h : P) : Stop P := h
set_option Elab.async true in
theorem main : PySem.Challenge.rw_np0087_01.Holds := by
  (w_on; o_law; k_head; (case hw => w_witness2))
  k_go0; (all_goals try k_fold); k_extra "mine steps"
  refine wpAny_execs_cons ?_
  k_extra "mine steps"
  rename_i D1 h1 tk1 o1n l9 h2 l1 h3 o9 F9 N9 d9
  rename Shared => S9
  refine stop_in ?_
  refine wpAny_mono ?_ (fun _ _ q => q) (fun _ _ (e : False) => e.elim)
  refine' run (D := l9) (dl := D1) (c1 := S9.heap.objs.size + 1) (c2 := S9.heap.objs.size + 1 + 1) (c3 := S9.heap.objs.size + 1 + 1 + 1) (c4 := S9.heap.objs.size + 1 + 1 + 1 + 1) (c5 := S9.heap.objs.size + 1 + 1 + 1 + 1 + 1) (c6 := S9.heap.objs.size + 1 + 1 + 1 + 1 + 1 + 1) (o1 := o9) (S0 := [(D1, LCg.lst ys), (S9.heap.objs.size + 1, o9)]) (n := 0) (t := tk1) ?hsc_z ?hb_z ?B_z ?F_z ?X_z ?T_z ?N_z ?hi_z (List.mem_cons_of_mem _ List.mem_cons_self) ?d1_z ?d2_z ?d3_z ?d4_z ?d5_z ?d6_z ?nd_z ?hS_z ?next_z
  (case F_z => exact F9)
  (case B_z => k_asm)
  (case X_z => (rename Frag.In _ _ => X9; exact X9))
  (case T_z => k_asm)
  (case hsc_z => with_unfolding_all rfl)
  (case hb_z => with_unfolding_all rfl)
  (case N_z => exact List.forall_mem_cons.mpr ⟨N9 _ List.mem_cons_self, List.forall_mem_cons.mpr ⟨N9 _ (by repeat (first | exact List.mem_cons_self | refine List.mem_cons_of_mem _ ?_)), List.forall_mem_cons.mpr ⟨N9 _ (by repeat (first | exact List.mem_cons_self | refine List.mem_cons_of_mem _ ?_)), List.forall_mem_cons.mpr ⟨N9 _ (by repeat (first | exact List.mem_cons_self | refine List.mem_cons_of_mem _ ?_)), List.forall_mem_cons.mpr ⟨N9 _ (by repeat (first | exact List.mem_cons_self | refine List.mem_cons_of_mem _ ?_)), List.forall_mem_cons.mpr ⟨N9 _ (by repeat (first | exact List.mem_cons_self | refine List.mem_cons_of_mem _ ?_)), List.forall_mem_cons.mpr ⟨N9 _ (by repeat (first | exact List.mem_cons_self | refine List.mem_cons_of_mem _ ?_)), List.forall_mem_cons.mpr ⟨N9 _ (by repeat (first | exact List.mem_cons_self | refine List.mem_cons_of_mem _ ?_)), (fun _ h => nomatch h)⟩⟩⟩⟩⟩⟩⟩⟩)
  (case hi_z => exact ⟨ys, _, _, List.mem_cons_self, by assumption, by simp; (first | lia | omega)⟩)
  (case d1_z => exact d9)
  (case d2_z => assumption)
  (case d3_z => assumption)
  (case d4_z => assumption)
  (case d5_z => assumption)
  (case d6_z => assumption)
  (case nd_z => simp only [List.nodup_cons, List.mem_cons, List.not_mem_nil, or_false, not_or, List.nodup_nil, and_true, not_false_eq_true]; (first | lia | omega))
  (case hS_z =>
    intro a ha p hp
    simp only [List.mem_cons, List.not_mem_nil, or_false] at ha hp
    rcases hp with rfl | rfl <;> dsimp only <;> rcases ha with rfl | rfl | rfl | rfl | rfl | rfl <;> (show @Ne Nat _ _) <;> (first | lia | omega))
  (case next_z => intro h' tk m' F'; clear F9 N9; k_steps)
end TLW

end B
end A

end Mine

theorem PySem.Challenge.cw_np0087_01_holds : PySem.Challenge.rw_np0087_01.Holds :=
  Mine.main
